/- SwapRings: the law's walk. -/
import Derived.Test.YtggbbldoopfejaaVp
namespace Go.Sim
open Go.Proofs Go.Plain
set_option maxRecDepth 100000
set_option linter.unusedSimpArgs false
attribute [-simp] List.map_set List.map_take List.map_drop
attribute [local simp] take_map' drop_map'
theorem bring_range {x n : Int} (hn : 0 < n) : 0 ≤ bring x n ∧ bring x n < n := by
  have h1 := Int.tmod_lt_of_pos x hn
  have h2 := Int.lt_tmod_of_pos x hn
  unfold bring
  split
  · omega
  · split
    · omega
    · omega
theorem SameTablesN (a : List (List Nat)) : ACalls Try.prog 23 [tabsN a, tabsN a] [] (fun r o => r = B true ∧ o = []) := by
  have h := SameTables_ok (a.map (List.map fun (n : Nat) => (n : Int))) (a.map (List.map fun (n : Nat) => (n : Int)))
  have e : tabs (a.map (List.map fun (n : Nat) => (n : Int))) = tabsN a := by
    simp [Function.comp_def]
  rw [e] at h
  refine h.mono fun r o h => ⟨h.1.trans (by simp), h.2⟩
/-- trades that are looked at -/
abbrev tradeP (p : List Turn × List (List Turn)) : AV := trade p.1 p.2
set_option maxHeartbeats 4000000 in
theorem SwapRings_ok (ow : List Turn) (lk : List (List Turn)) (likes : List Turn) (at_ : Int) (nums : List Int) : ACalls Try.prog 3 [trade ow lk, turns likes, I at_, ints nums] [] (fun r o => r = B true ∧ o = []) := by
  refine ACalls.enter hΓ Try.func3 rfl (by kernel_rfl) Try.ntmps3 (by rw [Try.results3]) (by simp) (by simp; rfl) ?_
  refine W.regK hΓ [1, 2, 3, 4, 25, 26, 27, 98, 99, 100, 103, 104, 105, 108, 109, 110, 111, 114, 115, 116, 117, 120, 121, 122, 123, 124, 125, 126] (by simp; rfl) ?_
  refine W.seqk fun K1 hK1 => ?_
  by_cases hw : wideT ow lk = true
  ·
    refine W.seqR ?_
    refine WOps.n hΓ 1 (by simp [hw]; first | rfl | exact ⟨rfl, rfl⟩) rfl ?_
    refine WOps.call rfl rfl rfl rfl [] rfl rfl (by decide) (by simp [hw]; first | rfl | exact ⟨rfl, rfl⟩) (by simp [hw]; rfl) ?_
    refine CallT.mk (wide_ok _ _) (by simp [hw]) ?_
    refine WOps.norm (by simp [hw]; rfl) ?_
    refine WOps.n hΓ 1 (by simp [hw]; first | rfl | exact ⟨rfl, rfl⟩) rfl ?_
    refine WOps.gd rfl rfl (by simp [hw]; first | rfl | exact (Bool.not_not _).symm) ?_
    (with_reducible refine WG.isF ?_); refine WGf.mk rfl (by simp [hw]; rfl) ?_
    refine WOps.gd rfl rfl (by simp [hw]; first | rfl | exact (Bool.not_not _).symm) ?_
    (with_reducible refine WG.isF ?_); refine WGf.mk rfl (by simp [hw]; rfl) ?_
    refine WOps.gd rfl rfl (by simp [hw]; first | rfl | exact (Bool.not_not _).symm) ?_
    (with_reducible refine WG.isF ?_); refine WGf.mk rfl (by simp [hw]; rfl) ?_
    refine WOps.n hΓ 1 (by simp [hw]; first | rfl | exact ⟨rfl, rfl⟩) rfl ?_
    refine WOps.endK ?_
    refine W.keep [1, 2, 3, 4, 28, 98, 99, 100, 103, 104, 105, 108, 109, 110, 111, 114, 115, 116, 117, 120, 121, 122, 123, 124, 125, 126] (by simp [hw]; rfl) ?_
    refine W.cond (t := true) (by simp [hw]) ?_
    simp only [if_true, Bool.false_eq_true, if_false]
    refine W.seqR ?_
    refine WOps.call rfl rfl rfl rfl [] rfl rfl (by decide) (by simp [hw]; first | rfl | exact ⟨rfl, rfl⟩) (by simp [hw]; rfl) ?_
    refine CallT.mk (awake_ok) (by simp [hw]) ?_
    refine WOps.norm (by simp [hw]; rfl) ?_
    refine WOps.n hΓ 1 (by simp [hw]; first | rfl | exact ⟨rfl, rfl⟩) rfl ?_
    refine WOps.endK ?_
    refine W.keep [8] (by simp [hw]; rfl) ?_
    refine W.ret ?_
    refine thenQ_r ?_
    clear hK1 K1
    refine EndQ.r false [] [] (by simp [hw]; first | rfl | exact ⟨rfl, rfl⟩) ?_
    -- 1 end
    first | done | omega | (simp_all; done) | (simp_all; omega)
  ·
    obtain ⟨qw1, qw2, qw3⟩ := wideT_false (by simpa using hw)
    refine W.seqR ?_
    refine WOps.n hΓ 1 (by simp [hw]; first | rfl | exact ⟨rfl, rfl⟩) rfl ?_
    refine WOps.call rfl rfl rfl rfl [] rfl rfl (by decide) (by simp [hw]; first | rfl | exact ⟨rfl, rfl⟩) (by simp [hw]; rfl) ?_
    refine CallT.mk (wide_ok _ _) (by simp [hw]) ?_
    refine WOps.norm (by simp [hw]; rfl) ?_
    refine WOps.n hΓ 1 (by simp [hw]; first | rfl | exact ⟨rfl, rfl⟩) rfl ?_
    refine WOps.gd rfl rfl (by simp [hw]; first | rfl | exact (Bool.not_not _).symm) ?_
    (with_reducible refine WG.isT ?_); refine WGt.mk hΓ rfl (by simp [hw]; first | rfl | exact ⟨rfl, rfl⟩) (by simp [hw]; rfl) ?_
    refine WOps.gd rfl rfl (by simp [hw]; first | rfl | exact (Bool.not_not _).symm) ?_
    (with_reducible refine WG.isT ?_); refine WGt.mk hΓ rfl (by simp [hw]; first | rfl | exact ⟨rfl, rfl⟩) (by simp [hw]; rfl) ?_
    refine WOps.gd rfl rfl (by simp [hw]; first | rfl | exact (Bool.not_not _).symm) ?_
    (with_reducible refine WG.isT ?_); refine WGt.mk hΓ rfl (by simp [hw]; first | rfl | exact ⟨rfl, rfl⟩) (by simp [hw]; rfl) ?_
    refine WOps.n hΓ 1 (by simp [hw]; first | rfl | exact ⟨rfl, rfl⟩) rfl ?_
    refine WOps.endK ?_
    refine W.keep [1, 2, 3, 4, 28, 98, 99, 100, 103, 104, 105, 108, 109, 110, 111, 114, 115, 116, 117, 120, 121, 122, 123, 124, 125, 126] (by simp [hw]; rfl) ?_
    refine W.ite (by simp [hw]; first | rfl | exact (Bool.not_not _).symm) (fun hc2 => ?_) (fun hc2 => ?_)
    ·
      try simp at hc2
      refine W.seqR ?_
      refine WOps.call rfl rfl rfl rfl [] rfl rfl (by decide) (by simp [hw, hc2]; first | rfl | exact ⟨rfl, rfl⟩) (by simp [hw, hc2]; rfl) ?_
      refine CallT.mk (awake_ok) (by simp [hw, hc2]) ?_
      refine WOps.norm (by simp [hw, hc2]; rfl) ?_
      refine WOps.n hΓ 1 (by simp [hw, hc2]; first | rfl | exact ⟨rfl, rfl⟩) rfl ?_
      refine WOps.endK ?_
      refine W.keep [8] (by simp [hw, hc2]; rfl) ?_
      refine W.ret ?_
      refine thenQ_r ?_
      clear hK1 K1
      refine EndQ.r false [] [] (by simp [hw, hc2]; first | rfl | exact ⟨rfl, rfl⟩) ?_
      -- 2 end
      first | done | omega | (simp_all; done) | (simp_all; omega)
    ·
      try simp at hc2
      refine W.skip ?_
      refine thenQ_n (hK1 _ ?_)
      clear hK1 K1
      refine W.seqR ?_
      refine WOps.n hΓ 1 (by simp [hw, hc2]; first | rfl | exact ⟨rfl, rfl⟩) rfl ?_
      refine WOps.call rfl rfl rfl rfl [] rfl rfl (by decide) (by simp [hw, hc2]; first | rfl | exact ⟨rfl, rfl⟩) (by simp [hw, hc2]; rfl) ?_
      refine CallT.mk (DieOf_ok nums) (by simp [hw, hc2]) ?_
      refine WOps.norm (by simp [hw, hc2]; rfl) ?_
      refine WOps.call rfl rfl rfl rfl [(10000, 248)] rfl rfl (by decide) (by simp [hw, hc2]; first | rfl | exact ⟨rfl, rfl⟩) (by simp [hw, hc2]; rfl) ?_
      refine CallT.mkE (TradeOf_ok _ 8 (by omega)) (fun z32 hz32 => ⟨(by simp [hw, hc2]), ?_⟩)
      obtain ⟨qz1, qz2, qz3, qz4⟩ := hz32
      have hz1 : z32.1.length ≤ 8 := qz1
      have hz2 : z32.2.1.length ≤ 8 := by omega
      have qz5 : ∀ l ∈ z32.2.1, l.length ≤ 10 := fun l hl => Nat.le_trans (qz4 l hl).2 (by omega)
      refine WOps.norm (by simp [hw, hc2]; rfl) ?_
      refine WOps.n hΓ 2 (by simp [hw, hc2]; first | rfl | exact ⟨rfl, rfl⟩) rfl ?_
      refine WOps.endK ?_
      refine W.keep [1, 2, 4, 9, 98, 99, 100, 103, 104, 105, 108, 109, 110, 111, 114, 115, 116, 117, 120, 121, 122, 123, 124, 125, 126] (by simp [hw, hc2]; rfl) ?_
      refine W.seqR ?_
      refine WOps.n hΓ 1 (by simp [hw, hc2]; first | rfl | exact ⟨rfl, rfl⟩) rfl ?_
      refine WOps.le (Le.freeze (id := 256) (by simp [hw, hc2]; rfl)) rfl rfl ?_
      refine WOps.le (Le.freeze (id := 257) (by simp [hw, hc2]; rfl)) rfl rfl ?_
      refine WOps.call rfl rfl rfl rfl [] rfl rfl (by decide) (by simp [hw, hc2]; first | rfl | exact ⟨rfl, rfl⟩) (by simp [hw, hc2]; rfl) ?_
      refine CallT.mk (CopyTrade_ok z32.1 z32.2.1 (by omega) (by omega) (fun l hl => Nat.le_trans (qz5 l hl) (by omega))) (by simp [hw, hc2]) ?_
      refine WOps.norm (by simp [hw, hc2]; rfl) ?_
      refine WOps.n hΓ 2 (by simp [hw, hc2]; first | rfl | exact ⟨rfl, rfl⟩) rfl ?_
      refine WOps.endK ?_
      refine W.keep [1, 2, 4, 9, 10, 98, 99, 100, 103, 104, 105, 108, 109, 110, 111, 114, 115, 116, 117, 120, 121, 122, 123, 124, 125, 126] (by simp [hw, hc2]; rfl) ?_
      refine W.seqk fun K2 hK2 => ?_
      refine W.regK hΓ [1, 2, 4, 9, 10, 38, 98, 99, 100, 103, 104, 105, 108, 109, 110, 111, 114, 115, 116, 117, 120, 121, 122, 123, 124, 125, 126] (by simp [hw, hc2]; rfl) ?_
      refine W.ite (by simp [hw, hc2]; first | rfl | exact (Bool.not_not _).symm) (fun hc3 => ?_) (fun hc3 => ?_)
      ·
        try simp at hc3
        obtain ⟨b, qb1⟩ : ∃ b : Nat, bring at_ (z32.2.1.length : Int) = (b : Int) := ⟨_, (Int.toNat_of_nonneg (bring_range (by omega)).1).symm⟩
        have hb1 := qb1
        have hb2 : b < z32.2.1.length := by have := (bring_range (x := at_) (n := (z32.2.1.length : Int)) (by omega)).2; omega
        obtain ⟨lk3, qlk3⟩ : ∃ l, l = z32.2.1.set b likes := ⟨_, rfl⟩
        have ql3 : lk3.length ≤ 8 := by rw [qlk3, List.length_set]; exact hz2
        have qm3 : ∀ l ∈ lk3, l.length ≤ 30 := by
          intro l hl
          rw [qlk3] at hl
          rcases List.mem_or_eq_of_mem_set hl with h | rfl
          · exact Nat.le_trans (qz5 l h) (by omega)
          · omega
        refine W.drawE hm 8 [] (deps := [[], [0], [], [], [3], [3, 4], [4, 3, 5, 2], [], [7, 2, 5, 3, 4, 6, 0, 1], [1, 0, 6, 4, 3, 5, 2, 7, 8]]) (by rfl) (by rfl) ?_
        refine WDraw.n hΓ 6 2 rfl (by simp [hw, hc2, hc3, hb1, hb2]; exact ⟨rfl, rfl, rfl⟩) rfl ?_
        refine WDraw.callD (by simp [hw, hc2, hc3, hb1, hb2]; rfl) rfl rfl rfl [] rfl (by simp [hw, hc2, hc3, hb1, hb2]; first | rfl | exact ⟨rfl, rfl⟩) (by simp [hw, hc2, hc3, hb1, hb2]; rfl) rfl rfl (.inl rfl) ?_
        refine CallD.mk (Bring_ok at_ (z32.2.1.length : Int) (by omega)) (by simp [hw, hc2, hc3, hb1, hb2]) ⟨(by simp [hw, hc2, hc3, hb1, hb2]), _, (by simp [hw, hc2, hc3, hb1, hb2]; rfl), ?_⟩
        refine WDraw.n hΓ 1 0 rfl (by simp [hw, hc2, hc3, hb1, hb2]; exact ⟨rfl, rfl, rfl⟩) rfl ?_
        refine WDraw.done (by simp [hw, hc2, hc3, hb1, hb2]; rfl) ?_
        refine WOps.n hΓ 2 (by simp [hw, hc2, hc3, hb1, hb2]; first | rfl | exact ⟨rfl, rfl⟩) rfl ?_
        refine WOps.endK ?_
        refine thenQ_n (hK2 _ ?_)
        clear hK2 K2
        refine W.regK hΓ [11, 98, 99, 100, 103, 104, 105, 108, 109, 110, 111, 114, 115, 116, 117, 120, 121, 122, 123, 124, 125, 126] (by simp [hw, hc2, hc3, hb1, hb2]; rfl) ?_
        refine W.seqk fun K3 hK3 => ?_
        refine W.regK hΓ [11, 12, 98, 99, 100, 103, 104, 105, 108, 109, 110, 111, 114, 115, 116, 117, 120, 121, 122, 123, 124, 125, 126] (by simp [hw, hc2, hc3, hb1, hb2]; rfl) ?_
        refine W.block ?_
        obtain ⟨ts, qts⟩ : ∃ ts : List (List Turn × List (List Turn)), ts = [(ow, lk), (z32.1, z32.2.1), (z32.1, lk3)] := ⟨_, rfl⟩
        have hts3 : ts.length = 3 := by rw [qts]; rfl
        have qall : ∀ p ∈ ts, p.1.length ≤ 20 ∧ p.2.length ≤ 20 ∧ ∀ l ∈ p.2, l.length ≤ 30 := by
          intro p hp
          rw [qts] at hp
          simp only [List.mem_cons, List.not_mem_nil, or_false] at hp
          rcases hp with rfl | rfl | rfl
          · exact ⟨qw1, qw2, qw3⟩
          · exact ⟨Nat.le_trans hz1 (by omega), Nat.le_trans hz2 (by omega), fun l hl => Nat.le_trans (qz5 l hl) (by omega)⟩
          · exact ⟨Nat.le_trans hz1 (by omega), Nat.le_trans ql3 (by omega), qm3⟩
        refine W.loopU (α := Nat) [11] [13, 54, 62, 65, 73, 78, 86, 90, 95, 110, 116, 125] [408] (fun i => [(12, I i)]) (fun i => [(408, .row true 25 2 (ts.map fun p => trade p.1 p.2))]) (fun i => i ≤ 3) (fun i => 3 - i) 0 rfl (by simp [hw, hc2, hc3, hb1, hb2, hts3]; rfl) (by simp [hw, hc2, hc3, hb1, hb2, hts3]; rfl) ?_ ?_ ?_
        ·
          refine Le.fit (by simp [hw, hc2, hc3, hb1, hb2, hts3]; rfl) (by rfl) (by rfl) (by rfl) ?_ ?_
          ·
            try (simp [hw, hc2, hc3, hb1, hb2, hts3])
            all_goals (
              -- 3 init.tmps
              first | done | omega | (simp_all; done) | (simp_all; omega)
            )
          ·
            try (simp [hw, hc2, hc3, hb1, hb2, hts3])
            all_goals (
              -- 4 init.objs
              rw [qts, qlk3, List.take_of_length_le (by simp)]; simp [List.map_set]
            )
        ·
          -- 5 init.inv
          first | done | omega | (simp_all; done) | (simp_all; omega)
        ·
          intro i hI0
          simp only [List.cons_append, List.nil_append]
          try dsimp only at hI0
          refine W.seqk fun K4 hK4 => ?_
          refine W.regK hΓ [11, 12, 55, 98, 99, 100, 103, 104, 105, 108, 109, 110, 111, 114, 115, 116, 117, 120, 121, 122, 123, 124, 125, 126] (by simp [hw, hc2, hc3, hb1, hb2, hts3, hI0]; rfl) ?_
          refine W.ite (by simp [hw, hc2, hc3, hb1, hb2, hts3, hI0]; first | rfl | exact (Bool.not_not _).symm) (fun hc4 => ?_) (fun hc4 => ?_)
          ·
            try simp at hc4
            refine W.skip ?_
            refine thenQ_n (hK4 _ ?_)
            clear hK4 K4
            refine W.seqk fun K5 hK5 => ?_
            refine W.block ?_
            have hi3 : i < ts.length := by omega
            have hi33 : i < 3 := by omega
            obtain ⟨qp1, qp2, qp3⟩ := qall ts[i] (List.getElem_mem hi3)
            refine W.seqR ?_
            refine WOps.n hΓ 4 (by simp [hw, hc2, hc3, hb1, hb2, hts3, hI0, hc4, hi3, hi33]; first | rfl | exact ⟨rfl, rfl⟩) rfl ?_
            refine WOps.call rfl rfl rfl rfl [] rfl rfl (by decide) (by simp [hw, hc2, hc3, hb1, hb2, hts3, hI0, hc4, hi3, hi33]; first | rfl | exact ⟨rfl, rfl⟩) (by simp [hw, hc2, hc3, hb1, hb2, hts3, hI0, hc4, hi3, hi33]; rfl) ?_
            refine CallT.mk (CopyTrade_ok ts[i].1 ts[i].2 (by omega) (by omega) (fun l hl => Nat.le_trans (qp3 l hl) (by omega))) (by simp [hw, hc2, hc3, hb1, hb2, hts3, hI0, hc4, hi3, hi33]) ?_
            refine WOps.norm (by simp [hw, hc2, hc3, hb1, hb2, hts3, hI0, hc4, hi3, hi33]; rfl) ?_
            refine WOps.n hΓ 2 (by simp [hw, hc2, hc3, hb1, hb2, hts3, hI0, hc4, hi3, hi33]; first | rfl | exact ⟨rfl, rfl⟩) rfl ?_
            refine WOps.endK ?_
            refine W.keep [11, 12, 13, 98, 99, 100, 103, 104, 105, 108, 109, 110, 111, 114, 115, 116, 117, 120, 121, 122, 123, 124, 125, 126] (by simp [hw, hc2, hc3, hb1, hb2, hts3, hI0, hc4, hi3, hi33]; rfl) ?_
            refine W.seqR ?_
            refine WOps.n hΓ 1 (by simp [hw, hc2, hc3, hb1, hb2, hts3, hI0, hc4, hi3, hi33]; first | rfl | exact ⟨rfl, rfl⟩) rfl ?_
            refine WOps.le (Le.freeze (id := 496) (by simp [hw, hc2, hc3, hb1, hb2, hts3, hI0, hc4, hi3, hi33]; rfl)) rfl rfl ?_
            refine WOps.le (Le.freeze (id := 497) (by simp [hw, hc2, hc3, hb1, hb2, hts3, hI0, hc4, hi3, hi33]; rfl)) rfl rfl ?_
            refine WOps.call rfl rfl rfl rfl [] rfl rfl (by decide) (by simp [hw, hc2, hc3, hb1, hb2, hts3, hI0, hc4, hi3, hi33]; first | rfl | exact ⟨rfl, rfl⟩) (by simp [hw, hc2, hc3, hb1, hb2, hts3, hI0, hc4, hi3, hi33]; rfl) ?_
            refine CallT.mk (Rings_ok _ _) (by simp [hw, hc2, hc3, hb1, hb2, hts3, hI0, hc4, hi3, hi33]) ?_
            refine WOps.norm (by simp [hw, hc2, hc3, hb1, hb2, hts3, hI0, hc4, hi3, hi33]; rfl) ?_
            refine WOps.n hΓ 5 (by simp [hw, hc2, hc3, hb1, hb2, hts3, hI0, hc4, hi3, hi33]; first | rfl | exact ⟨rfl, rfl⟩) rfl ?_
            refine WOps.endK ?_
            refine W.keep [11, 12, 13, 14, 15, 98, 99, 100, 103, 104, 105, 108, 109, 110, 111, 114, 115, 116, 117, 120, 121, 122, 123, 124, 125, 126] (by simp [hw, hc2, hc3, hb1, hb2, hts3, hI0, hc4, hi3, hi33]; rfl) ?_
            refine W.seqR ?_
            refine WOps.n hΓ 4 (by simp [hw, hc2, hc3, hb1, hb2, hts3, hI0, hc4, hi3, hi33]; first | rfl | exact ⟨rfl, rfl⟩) rfl ?_
            refine WOps.call rfl rfl rfl rfl [] rfl rfl (by decide) (by simp [hw, hc2, hc3, hb1, hb2, hts3, hI0, hc4, hi3, hi33]; first | rfl | exact ⟨rfl, rfl⟩) (by simp [hw, hc2, hc3, hb1, hb2, hts3, hI0, hc4, hi3, hi33]; rfl) ?_
            refine CallT.mk (rRings_ok _ _) (by simp [hw, hc2, hc3, hb1, hb2, hts3, hI0, hc4, hi3, hi33]) ?_
            refine WOps.norm (by simp [hw, hc2, hc3, hb1, hb2, hts3, hI0, hc4, hi3, hi33]; rfl) ?_
            refine WOps.n hΓ 5 (by simp [hw, hc2, hc3, hb1, hb2, hts3, hI0, hc4, hi3, hi33]; first | rfl | exact ⟨rfl, rfl⟩) rfl ?_
            refine WOps.endK ?_
            refine W.keep [11, 12, 13, 14, 15, 16, 17, 98, 99, 100, 103, 104, 105, 108, 109, 110, 111, 114, 115, 116, 117, 120, 121, 122, 123, 124, 125, 126] (by simp [hw, hc2, hc3, hb1, hb2, hts3, hI0, hc4, hi3, hi33]; rfl) ?_
            refine W.seqR ?_
            refine WOps.n hΓ 1 (by simp [hw, hc2, hc3, hb1, hb2, hts3, hI0, hc4, hi3, hi33]; first | rfl | exact ⟨rfl, rfl⟩) rfl ?_
            refine WOps.call rfl rfl rfl rfl [] rfl rfl (by decide) (by simp [hw, hc2, hc3, hb1, hb2, hts3, hI0, hc4, hi3, hi33]; first | rfl | exact ⟨rfl, rfl⟩) (by simp [hw, hc2, hc3, hb1, hb2, hts3, hI0, hc4, hi3, hi33]; rfl) ?_
            refine CallT.mk (Swap_ok _ _) (by simp [hw, hc2, hc3, hb1, hb2, hts3, hI0, hc4, hi3, hi33]) ?_
            refine WOps.norm (by simp [hw, hc2, hc3, hb1, hb2, hts3, hI0, hc4, hi3, hi33]; rfl) ?_
            refine WOps.n hΓ 5 (by simp [hw, hc2, hc3, hb1, hb2, hts3, hI0, hc4, hi3, hi33]; first | rfl | exact ⟨rfl, rfl⟩) rfl ?_
            refine WOps.endK ?_
            refine W.keep [11, 12, 13, 14, 15, 16, 17, 18, 19, 98, 99, 100, 103, 104, 105, 108, 109, 110, 111, 114, 115, 116, 117, 120, 121, 122, 123, 124, 125, 126] (by simp [hw, hc2, hc3, hb1, hb2, hts3, hI0, hc4, hi3, hi33]; rfl) ?_
            refine W.seqR ?_
            refine WOps.n hΓ 4 (by simp [hw, hc2, hc3, hb1, hb2, hts3, hI0, hc4, hi3, hi33]; first | rfl | exact ⟨rfl, rfl⟩) rfl ?_
            refine WOps.call rfl rfl rfl rfl [] rfl rfl (by decide) (by simp [hw, hc2, hc3, hb1, hb2, hts3, hI0, hc4, hi3, hi33]; first | rfl | exact ⟨rfl, rfl⟩) (by simp [hw, hc2, hc3, hb1, hb2, hts3, hI0, hc4, hi3, hi33]; rfl) ?_
            refine CallT.mk (rSwap_ok _ _) (by simp [hw, hc2, hc3, hb1, hb2, hts3, hI0, hc4, hi3, hi33]) ?_
            refine WOps.norm (by simp [hw, hc2, hc3, hb1, hb2, hts3, hI0, hc4, hi3, hi33]; rfl) ?_
            refine WOps.n hΓ 5 (by simp [hw, hc2, hc3, hb1, hb2, hts3, hI0, hc4, hi3, hi33]; first | rfl | exact ⟨rfl, rfl⟩) rfl ?_
            refine WOps.endK ?_
            refine W.keep [11, 12, 13, 14, 15, 16, 17, 18, 19, 20, 21, 98, 99, 100, 103, 104, 105, 108, 109, 110, 111, 114, 115, 116, 117, 120, 121, 122, 123, 124, 125, 126] (by simp [hw, hc2, hc3, hb1, hb2, hts3, hI0, hc4, hi3, hi33]; rfl) ?_
            refine W.drawT hm 36 [] (deps := [[], [0], [], [], [3, 2], [2, 3, 4], [0, 1, 4, 3, 2, 5], [5, 2, 3, 4, 6, 0, 1], [1, 0, 6, 4, 3, 2, 5, 7], [7, 5, 2, 3, 4, 6, 0, 1, 8], [7, 5, 2, 3, 4, 6, 0, 1, 8], [10, 8, 1, 0, 6, 4, 3, 2, 5, 7, 9], [9, 10, 11, 7, 5, 2, 3, 4, 6, 0, 1, 8], [8, 1, 0, 6, 4, 3, 2, 5, 7, 11, 10, 9, 12], [12, 9, 10, 11, 7, 5, 2, 3, 4, 6, 0, 1, 8, 13], [12, 9, 10, 11, 7, 5, 2, 3, 4, 6, 0, 1, 8, 13], [15, 13, 8, 1, 0, 6, 4, 3, 2, 5, 7, 11, 10, 9, 12, 14], [14, 15, 16, 12, 9, 10, 11, 7, 5, 2, 3, 4, 6, 0, 1, 8, 13], [13, 8, 1, 0, 6, 4, 3, 2, 5, 7, 11, 10, 9, 12, 16, 15, 14, 17], [17, 14, 15, 16, 12, 9, 10, 11, 7, 5, 2, 3, 4, 6, 0, 1, 8, 13, 18], [17, 14, 15, 16, 12, 9, 10, 11, 7, 5, 2, 3, 4, 6, 0, 1, 8, 13, 18], [20, 18, 13, 8, 1, 0, 6, 4, 3, 2, 5, 7, 11, 10, 9, 12, 16, 15, 14, 17, 19], [19, 17, 14, 15, 16, 12, 9, 10, 11, 7, 5, 2, 3, 4, 6, 0, 1, 8, 13, 18, 20, 21], [21, 20, 19, 22, 17, 14, 15, 16, 12, 9, 10, 11, 7, 5, 2, 3, 4, 6, 0, 1, 8, 13, 18], [18, 13, 8, 1, 0, 6, 4, 3, 2, 5, 7, 11, 10, 9, 12, 16, 15, 14, 17, 22, 19, 20, 21, 23], [23, 21, 20, 19, 22, 17, 14, 15, 16, 12, 9, 10, 11, 7, 5, 2, 3, 4, 6, 0, 1, 8, 13, 18, 24], [23, 21, 20, 19, 22, 17, 14, 15, 16, 12, 9, 10, 11, 7, 5, 2, 3, 4, 6, 0, 1, 8, 13, 18, 24], [26, 24, 18, 13, 8, 1, 0, 6, 4, 3, 2, 5, 7, 11, 10, 9, 12, 16, 15, 14, 17, 22, 19, 20, 21, 23, 25], [25, 23, 21, 20, 19, 22, 17, 14, 15, 16, 12, 9, 10, 11, 7, 5, 2, 3, 4, 6, 0, 1, 8, 13, 18, 24, 26, 27], [27, 26, 25, 28, 23, 21, 20, 19, 22, 17, 14, 15, 16, 12, 9, 10, 11, 7, 5, 2, 3, 4, 6, 0, 1, 8, 13, 18, 24], [24, 18, 13, 8, 1, 0, 6, 4, 3, 2, 5, 7, 11, 10, 9, 12, 16, 15, 14, 17, 22, 19, 20, 21, 23, 28, 25, 26, 27, 29], [29, 27, 26, 25, 28, 23, 21, 20, 19, 22, 17, 14, 15, 16, 12, 9, 10, 11, 7, 5, 2, 3, 4, 6, 0, 1, 8, 13, 18, 24, 30], [29, 27, 26, 25, 28, 23, 21, 20, 19, 22, 17, 14, 15, 16, 12, 9, 10, 11, 7, 5, 2, 3, 4, 6, 0, 1, 8, 13, 18, 24, 30], [29, 27, 26, 25, 28, 23, 21, 20, 19, 22, 17, 14, 15, 16, 12, 9, 10, 11, 7, 5, 2, 3, 4, 6, 0, 1, 8, 13, 18, 24, 30], [33, 30, 24, 18, 13, 8, 1, 0, 6, 4, 3, 2, 5, 7, 11, 10, 9, 12, 16, 15, 14, 17, 22, 19, 20, 21, 23, 28, 25, 26, 27, 29, 32], [32, 29, 27, 26, 25, 28, 23, 21, 20, 19, 22, 17, 14, 15, 16, 12, 9, 10, 11, 7, 5, 2, 3, 4, 6, 0, 1, 8, 13, 18, 24, 30, 33, 34], [34, 33, 32, 35, 30, 24, 18, 13, 8, 1, 0, 6, 4, 3, 2, 5, 7, 11, 10, 9, 12, 16, 15, 14, 17, 22, 19, 20, 21, 23, 28, 25, 26, 27, 29, 31], [31, 29, 27, 26, 25, 28, 23, 21, 20, 19, 22, 17, 14, 15, 16, 12, 9, 10, 11, 7, 5, 2, 3, 4, 6, 0, 1, 8, 13, 18, 24, 30, 35, 32, 33, 34, 36], [36, 34, 33, 32, 35, 31, 37, 29, 27, 26, 25, 28, 23, 21, 20, 19, 22, 17, 14, 15, 16, 12, 9, 10, 11, 7, 5, 2, 3, 4, 6, 0, 1, 8, 13, 18, 24, 30]]) (by rfl) (by rfl) ?_
            refine WDraw.n hΓ 1 35 rfl (by simp [hw, hc2, hc3, hb1, hb2, hts3, hI0, hc4, hi3, hi33]; exact ⟨rfl, rfl, rfl⟩) rfl ?_
            refine WDraw.callD (by simp [hw, hc2, hc3, hb1, hb2, hts3, hI0, hc4, hi3, hi33]; rfl) rfl rfl rfl [] rfl (by simp [hw, hc2, hc3, hb1, hb2, hts3, hI0, hc4, hi3, hi33]; first | rfl | exact ⟨rfl, rfl⟩) (by simp [hw, hc2, hc3, hb1, hb2, hts3, hI0, hc4, hi3, hi33]; rfl) rfl rfl (.inl rfl) ?_
            refine CallD.mk (Check_ok _ _) (by simp [hw, hc2, hc3, hb1, hb2, hts3, hI0, hc4, hi3, hi33]) ⟨(by simp [hw, hc2, hc3, hb1, hb2, hts3, hI0, hc4, hi3, hi33]), _, (by simp [hw, hc2, hc3, hb1, hb2, hts3, hI0, hc4, hi3, hi33]; rfl), ?_⟩
            refine WDraw.n hΓ 4 30 rfl (by simp [hw, hc2, hc3, hb1, hb2, hts3, hI0, hc4, hi3, hi33]; exact ⟨rfl, rfl, rfl⟩) rfl ?_
            refine WDraw.callD (by simp [hw, hc2, hc3, hb1, hb2, hts3, hI0, hc4, hi3, hi33]; rfl) rfl rfl rfl [] rfl (by simp [hw, hc2, hc3, hb1, hb2, hts3, hI0, hc4, hi3, hi33]; first | rfl | exact ⟨rfl, rfl⟩) (by simp [hw, hc2, hc3, hb1, hb2, hts3, hI0, hc4, hi3, hi33]; rfl) rfl rfl (.inl rfl) ?_
            refine CallD.mk (rCheck_ok _ _) (by simp [hw, hc2, hc3, hb1, hb2, hts3, hI0, hc4, hi3, hi33]) ⟨(by simp [hw, hc2, hc3, hb1, hb2, hts3, hI0, hc4, hi3, hi33]), _, (by simp [hw, hc2, hc3, hb1, hb2, hts3, hI0, hc4, hi3, hi33]; rfl), ?_⟩
            refine WDraw.n hΓ 2 27 rfl (by simp [hw, hc2, hc3, hb1, hb2, hts3, hI0, hc4, hi3, hi33]; exact ⟨rfl, rfl, rfl⟩) rfl ?_
            refine WDraw.gd (by simp [hw, hc2, hc3, hb1, hb2, hts3, hI0, hc4, hi3, hi33]; first | rfl | exact (Bool.not_not _).symm) rfl rfl (by simp [hw, hc2, hc3, hb1, hb2, hts3, hI0, hc4, hi3, hi33]; rfl) ?_
            (with_reducible refine DG.isT ?_); refine DGt.mk hΓ (by simp [hw, hc2, hc3, hb1, hb2, hts3, hI0, hc4, hi3, hi33]; first | rfl | exact ⟨rfl, rfl⟩) (by simp [hw, hc2, hc3, hb1, hb2, hts3, hI0, hc4, hi3, hi33]) (by simp [hw, hc2, hc3, hb1, hb2, hts3, hI0, hc4, hi3, hi33]; rfl) ?_
            refine WDraw.gd (by simp [hw, hc2, hc3, hb1, hb2, hts3, hI0, hc4, hi3, hi33]; first | rfl | exact (Bool.not_not _).symm) rfl rfl (by simp [hw, hc2, hc3, hb1, hb2, hts3, hI0, hc4, hi3, hi33]; rfl) ?_
            (with_reducible refine DG.isT ?_); refine DGt.mk hΓ (by simp [hw, hc2, hc3, hb1, hb2, hts3, hI0, hc4, hi3, hi33]; first | rfl | exact ⟨rfl, rfl⟩) (by simp [hw, hc2, hc3, hb1, hb2, hts3, hI0, hc4, hi3, hi33]) (by simp [hw, hc2, hc3, hb1, hb2, hts3, hI0, hc4, hi3, hi33]; rfl) ?_
            refine WDraw.gd (by simp [hw, hc2, hc3, hb1, hb2, hts3, hI0, hc4, hi3, hi33]; first | rfl | exact (Bool.not_not _).symm) rfl rfl (by simp [hw, hc2, hc3, hb1, hb2, hts3, hI0, hc4, hi3, hi33]; rfl) ?_
            (with_reducible refine DG.isT ?_); refine DGt.mk hΓ (by simp [hw, hc2, hc3, hb1, hb2, hts3, hI0, hc4, hi3, hi33]; first | rfl | exact ⟨rfl, rfl⟩) (by simp [hw, hc2, hc3, hb1, hb2, hts3, hI0, hc4, hi3, hi33]) (by simp [hw, hc2, hc3, hb1, hb2, hts3, hI0, hc4, hi3, hi33]; rfl) ?_
            refine WDraw.n hΓ 2 22 rfl (by simp [hw, hc2, hc3, hb1, hb2, hts3, hI0, hc4, hi3, hi33]; exact ⟨rfl, rfl, rfl⟩) rfl ?_
            refine WDraw.gd (by simp [hw, hc2, hc3, hb1, hb2, hts3, hI0, hc4, hi3, hi33]; first | rfl | exact (Bool.not_not _).symm) rfl rfl (by simp [hw, hc2, hc3, hb1, hb2, hts3, hI0, hc4, hi3, hi33]; rfl) ?_
            (with_reducible refine DG.isT ?_); refine DGt.mk hΓ (by simp [hw, hc2, hc3, hb1, hb2, hts3, hI0, hc4, hi3, hi33]; first | rfl | exact ⟨rfl, rfl⟩) (by simp [hw, hc2, hc3, hb1, hb2, hts3, hI0, hc4, hi3, hi33]) (by simp [hw, hc2, hc3, hb1, hb2, hts3, hI0, hc4, hi3, hi33]; rfl) ?_
            refine WDraw.gd (by simp [hw, hc2, hc3, hb1, hb2, hts3, hI0, hc4, hi3, hi33]; first | rfl | exact (Bool.not_not _).symm) rfl rfl (by simp [hw, hc2, hc3, hb1, hb2, hts3, hI0, hc4, hi3, hi33]; rfl) ?_
            (with_reducible refine DG.isT ?_); refine DGt.mk hΓ (by simp [hw, hc2, hc3, hb1, hb2, hts3, hI0, hc4, hi3, hi33]; first | rfl | exact ⟨rfl, rfl⟩) (by simp [hw, hc2, hc3, hb1, hb2, hts3, hI0, hc4, hi3, hi33]) (by simp [hw, hc2, hc3, hb1, hb2, hts3, hI0, hc4, hi3, hi33]; rfl) ?_
            refine WDraw.gd (by simp [hw, hc2, hc3, hb1, hb2, hts3, hI0, hc4, hi3, hi33]; first | rfl | exact (Bool.not_not _).symm) rfl rfl (by simp [hw, hc2, hc3, hb1, hb2, hts3, hI0, hc4, hi3, hi33]; rfl) ?_
            (with_reducible refine DG.isT ?_); refine DGt.mk hΓ (by simp [hw, hc2, hc3, hb1, hb2, hts3, hI0, hc4, hi3, hi33]; first | rfl | exact ⟨rfl, rfl⟩) (by simp [hw, hc2, hc3, hb1, hb2, hts3, hI0, hc4, hi3, hi33]) (by simp [hw, hc2, hc3, hb1, hb2, hts3, hI0, hc4, hi3, hi33]; rfl) ?_
            refine WDraw.n hΓ 2 17 rfl (by simp [hw, hc2, hc3, hb1, hb2, hts3, hI0, hc4, hi3, hi33]; exact ⟨rfl, rfl, rfl⟩) rfl ?_
            refine WDraw.gd (by simp [hw, hc2, hc3, hb1, hb2, hts3, hI0, hc4, hi3, hi33]; first | rfl | exact (Bool.not_not _).symm) rfl rfl (by simp [hw, hc2, hc3, hb1, hb2, hts3, hI0, hc4, hi3, hi33]; rfl) ?_
            (with_reducible refine DG.isT ?_); refine DGt.mk hΓ (by simp [hw, hc2, hc3, hb1, hb2, hts3, hI0, hc4, hi3, hi33]; first | rfl | exact ⟨rfl, rfl⟩) (by simp [hw, hc2, hc3, hb1, hb2, hts3, hI0, hc4, hi3, hi33]) (by simp [hw, hc2, hc3, hb1, hb2, hts3, hI0, hc4, hi3, hi33]; rfl) ?_
            refine WDraw.gd (by simp [hw, hc2, hc3, hb1, hb2, hts3, hI0, hc4, hi3, hi33]; first | rfl | exact (Bool.not_not _).symm) rfl rfl (by simp [hw, hc2, hc3, hb1, hb2, hts3, hI0, hc4, hi3, hi33]; rfl) ?_
            (with_reducible refine DG.isT ?_); refine DGt.mk hΓ (by simp [hw, hc2, hc3, hb1, hb2, hts3, hI0, hc4, hi3, hi33]; first | rfl | exact ⟨rfl, rfl⟩) (by simp [hw, hc2, hc3, hb1, hb2, hts3, hI0, hc4, hi3, hi33]) (by simp [hw, hc2, hc3, hb1, hb2, hts3, hI0, hc4, hi3, hi33]; rfl) ?_
            refine WDraw.gd (by simp [hw, hc2, hc3, hb1, hb2, hts3, hI0, hc4, hi3, hi33]; first | rfl | exact (Bool.not_not _).symm) rfl rfl (by simp [hw, hc2, hc3, hb1, hb2, hts3, hI0, hc4, hi3, hi33]; rfl) ?_
            (with_reducible refine DG.isT ?_)
            refine DGt.call rfl rfl [] rfl (by simp [hw, hc2, hc3, hb1, hb2, hts3, hI0, hc4, hi3, hi33]; first | rfl | exact ⟨rfl, rfl⟩) (by simp [hw, hc2, hc3, hb1, hb2, hts3, hI0, hc4, hi3, hi33]; rfl) rfl rfl (.inl rfl) ?_
            refine CallD.mk (SameTablesN _) (by simp [hw, hc2, hc3, hb1, hb2, hts3, hI0, hc4, hi3, hi33]) ⟨(by simp [hw, hc2, hc3, hb1, hb2, hts3, hI0, hc4, hi3, hi33]), _, (by simp [hw, hc2, hc3, hb1, hb2, hts3, hI0, hc4, hi3, hi33]; rfl), ?_⟩
            refine WDraw.gd (by simp [hw, hc2, hc3, hb1, hb2, hts3, hI0, hc4, hi3, hi33]; first | rfl | exact (Bool.not_not _).symm) rfl rfl (by simp [hw, hc2, hc3, hb1, hb2, hts3, hI0, hc4, hi3, hi33]; rfl) ?_
            (with_reducible refine DG.isT ?_); refine DGt.mk hΓ (by simp [hw, hc2, hc3, hb1, hb2, hts3, hI0, hc4, hi3, hi33]; first | rfl | exact ⟨rfl, rfl⟩) (by simp [hw, hc2, hc3, hb1, hb2, hts3, hI0, hc4, hi3, hi33]) (by simp [hw, hc2, hc3, hb1, hb2, hts3, hI0, hc4, hi3, hi33]; rfl) ?_
            refine WDraw.n hΓ 2 11 rfl (by simp [hw, hc2, hc3, hb1, hb2, hts3, hI0, hc4, hi3, hi33]; exact ⟨rfl, rfl, rfl⟩) rfl ?_
            refine WDraw.gd (by simp [hw, hc2, hc3, hb1, hb2, hts3, hI0, hc4, hi3, hi33]; first | rfl | exact (Bool.not_not _).symm) rfl rfl (by simp [hw, hc2, hc3, hb1, hb2, hts3, hI0, hc4, hi3, hi33]; rfl) ?_
            (with_reducible refine DG.isT ?_); refine DGt.mk hΓ (by simp [hw, hc2, hc3, hb1, hb2, hts3, hI0, hc4, hi3, hi33]; first | rfl | exact ⟨rfl, rfl⟩) (by simp [hw, hc2, hc3, hb1, hb2, hts3, hI0, hc4, hi3, hi33]) (by simp [hw, hc2, hc3, hb1, hb2, hts3, hI0, hc4, hi3, hi33]; rfl) ?_
            refine WDraw.gd (by simp [hw, hc2, hc3, hb1, hb2, hts3, hI0, hc4, hi3, hi33]; first | rfl | exact (Bool.not_not _).symm) rfl rfl (by simp [hw, hc2, hc3, hb1, hb2, hts3, hI0, hc4, hi3, hi33]; rfl) ?_
            (with_reducible refine DG.isT ?_); refine DGt.mk hΓ (by simp [hw, hc2, hc3, hb1, hb2, hts3, hI0, hc4, hi3, hi33]; first | rfl | exact ⟨rfl, rfl⟩) (by simp [hw, hc2, hc3, hb1, hb2, hts3, hI0, hc4, hi3, hi33]) (by simp [hw, hc2, hc3, hb1, hb2, hts3, hI0, hc4, hi3, hi33]; rfl) ?_
            refine WDraw.gd (by simp [hw, hc2, hc3, hb1, hb2, hts3, hI0, hc4, hi3, hi33]; first | rfl | exact (Bool.not_not _).symm) rfl rfl (by simp [hw, hc2, hc3, hb1, hb2, hts3, hI0, hc4, hi3, hi33]; rfl) ?_
            (with_reducible refine DG.isT ?_)
            refine DGt.call rfl rfl [] rfl (by simp [hw, hc2, hc3, hb1, hb2, hts3, hI0, hc4, hi3, hi33]; first | rfl | exact ⟨rfl, rfl⟩) (by simp [hw, hc2, hc3, hb1, hb2, hts3, hI0, hc4, hi3, hi33]; rfl) rfl rfl (.inl rfl) ?_
            refine CallD.mk (SameTurns_ok _ _) (by simp [hw, hc2, hc3, hb1, hb2, hts3, hI0, hc4, hi3, hi33]) ⟨(by simp [hw, hc2, hc3, hb1, hb2, hts3, hI0, hc4, hi3, hi33]), _, (by simp [hw, hc2, hc3, hb1, hb2, hts3, hI0, hc4, hi3, hi33]; rfl), ?_⟩
            refine WDraw.gd (by simp [hw, hc2, hc3, hb1, hb2, hts3, hI0, hc4, hi3, hi33]; first | rfl | exact (Bool.not_not _).symm) rfl rfl (by simp [hw, hc2, hc3, hb1, hb2, hts3, hI0, hc4, hi3, hi33]; rfl) ?_
            (with_reducible refine DG.isT ?_); refine DGt.mk hΓ (by simp [hw, hc2, hc3, hb1, hb2, hts3, hI0, hc4, hi3, hi33]; first | rfl | exact ⟨rfl, rfl⟩) (by simp [hw, hc2, hc3, hb1, hb2, hts3, hI0, hc4, hi3, hi33]) (by simp [hw, hc2, hc3, hb1, hb2, hts3, hI0, hc4, hi3, hi33]; rfl) ?_
            refine WDraw.n hΓ 2 5 rfl (by simp [hw, hc2, hc3, hb1, hb2, hts3, hI0, hc4, hi3, hi33]; exact ⟨rfl, rfl, rfl⟩) rfl ?_
            refine WDraw.gd (by simp [hw, hc2, hc3, hb1, hb2, hts3, hI0, hc4, hi3, hi33]; first | rfl | exact (Bool.not_not _).symm) rfl rfl (by simp [hw, hc2, hc3, hb1, hb2, hts3, hI0, hc4, hi3, hi33]; rfl) ?_
            (with_reducible refine DG.isT ?_); refine DGt.mk hΓ (by simp [hw, hc2, hc3, hb1, hb2, hts3, hI0, hc4, hi3, hi33]; first | rfl | exact ⟨rfl, rfl⟩) (by simp [hw, hc2, hc3, hb1, hb2, hts3, hI0, hc4, hi3, hi33]) (by simp [hw, hc2, hc3, hb1, hb2, hts3, hI0, hc4, hi3, hi33]; rfl) ?_
            refine WDraw.gd (by simp [hw, hc2, hc3, hb1, hb2, hts3, hI0, hc4, hi3, hi33]; first | rfl | exact (Bool.not_not _).symm) rfl rfl (by simp [hw, hc2, hc3, hb1, hb2, hts3, hI0, hc4, hi3, hi33]; rfl) ?_
            (with_reducible refine DG.isT ?_); refine DGt.mk hΓ (by simp [hw, hc2, hc3, hb1, hb2, hts3, hI0, hc4, hi3, hi33]; first | rfl | exact ⟨rfl, rfl⟩) (by simp [hw, hc2, hc3, hb1, hb2, hts3, hI0, hc4, hi3, hi33]) (by simp [hw, hc2, hc3, hb1, hb2, hts3, hI0, hc4, hi3, hi33]; rfl) ?_
            refine WDraw.gd (by simp [hw, hc2, hc3, hb1, hb2, hts3, hI0, hc4, hi3, hi33]; first | rfl | exact (Bool.not_not _).symm) rfl rfl (by simp [hw, hc2, hc3, hb1, hb2, hts3, hI0, hc4, hi3, hi33]; rfl) ?_
            (with_reducible refine DG.isT ?_); refine DGt.mk hΓ (by simp [hw, hc2, hc3, hb1, hb2, hts3, hI0, hc4, hi3, hi33]; first | rfl | exact ⟨rfl, rfl⟩) (by simp [hw, hc2, hc3, hb1, hb2, hts3, hI0, hc4, hi3, hi33]) (by simp [hw, hc2, hc3, hb1, hb2, hts3, hI0, hc4, hi3, hi33]; rfl) ?_
            refine WDraw.gd (by simp [hw, hc2, hc3, hb1, hb2, hts3, hI0, hc4, hi3, hi33]; first | rfl | exact (Bool.not_not _).symm) rfl rfl (by simp [hw, hc2, hc3, hb1, hb2, hts3, hI0, hc4, hi3, hi33]; rfl) ?_
            (with_reducible refine DG.isT ?_); refine DGt.mk hΓ (by simp [hw, hc2, hc3, hb1, hb2, hts3, hI0, hc4, hi3, hi33]; first | rfl | exact ⟨rfl, rfl⟩) (by simp [hw, hc2, hc3, hb1, hb2, hts3, hI0, hc4, hi3, hi33]) (by simp [hw, hc2, hc3, hb1, hb2, hts3, hI0, hc4, hi3, hi33]; rfl) ?_
            refine WDraw.gd (by simp [hw, hc2, hc3, hb1, hb2, hts3, hI0, hc4, hi3, hi33]; first | rfl | exact (Bool.not_not _).symm) rfl rfl (by simp [hw, hc2, hc3, hb1, hb2, hts3, hI0, hc4, hi3, hi33]; rfl) ?_
            (with_reducible refine DG.isT ?_); refine DGt.mk hΓ (by simp [hw, hc2, hc3, hb1, hb2, hts3, hI0, hc4, hi3, hi33]; first | rfl | exact ⟨rfl, rfl⟩) (by simp [hw, hc2, hc3, hb1, hb2, hts3, hI0, hc4, hi3, hi33]) (by simp [hw, hc2, hc3, hb1, hb2, hts3, hI0, hc4, hi3, hi33]; rfl) ?_
            refine WDraw.done (by simp [hw, hc2, hc3, hb1, hb2, hts3, hI0, hc4, hi3, hi33]; rfl) ?_
            refine WOps.gd rfl rfl (by simp [hw, hc2, hc3, hb1, hb2, hts3, hI0, hc4, hi3, hi33]; first | rfl | exact (Bool.not_not _).symm) ?_
            (with_reducible refine WG.isT ?_)
            refine WGt.call rfl rfl rfl [] rfl rfl (by decide) (by simp [hw, hc2, hc3, hb1, hb2, hts3, hI0, hc4, hi3, hi33]; first | rfl | exact ⟨rfl, rfl⟩) (by simp [hw, hc2, hc3, hb1, hb2, hts3, hI0, hc4, hi3, hi33]; rfl) ?_
            refine CallT.mk (SameTrades_ok _ _ _ _) (by simp [hw, hc2, hc3, hb1, hb2, hts3, hI0, hc4, hi3, hi33]) ?_
            refine WOps.norm (by simp [hw, hc2, hc3, hb1, hb2, hts3, hI0, hc4, hi3, hi33]; rfl) ?_
            refine WOps.gd rfl rfl (by simp [hw, hc2, hc3, hb1, hb2, hts3, hI0, hc4, hi3, hi33]; first | rfl | exact (Bool.not_not _).symm) ?_
            (with_reducible refine WG.isT ?_); refine WGt.mk hΓ rfl (by simp [hw, hc2, hc3, hb1, hb2, hts3, hI0, hc4, hi3, hi33]; first | rfl | exact ⟨rfl, rfl⟩) (by simp [hw, hc2, hc3, hb1, hb2, hts3, hI0, hc4, hi3, hi33]; rfl) ?_
            refine WOps.n hΓ 1 (by simp [hw, hc2, hc3, hb1, hb2, hts3, hI0, hc4, hi3, hi33]; first | rfl | exact ⟨rfl, rfl⟩) rfl ?_
            refine WOps.endK ?_
            refine W.keep [11, 12, 98, 99, 100, 103, 104, 105, 108, 109, 110, 111, 114, 115, 116, 117, 120, 121, 122, 123, 124, 125, 126, 127] (by simp [hw, hc2, hc3, hb1, hb2, hts3, hI0, hc4, hi3, hi33]; rfl) ?_
            refine W.cond (t := false) (by simp [hw, hc2, hc3, hb1, hb2, hts3, hI0, hc4, hi3, hi33]) ?_
            simp only [if_true, Bool.false_eq_true, if_false]
            refine W.skip ?_
            refine blockQ_n ?_
            refine thenQ_n (hK5 _ ?_)
            clear hK5 K5
            refine W.regE hΓ (by simp [hw, hc2, hc3, hb1, hb2, hts3, hI0, hc4, hi3, hi33]; (try (simp (disch := omega) only [wrap_i64, mul_i64, capOk_of]; (try simp [hw, hc2, hc3, hb1, hb2, hts3, hI0, hc4, hi3, hi33]))); rfl) ?_
            refine ⟨i + 1, Le.fit (by simp [hw, hc2, hc3, hb1, hb2, hts3, hI0, hc4, hi3, hi33]; rfl) (by rfl) (by rfl) (by rfl) ?_ ?_, ?_, ?_⟩
            ·
              try (simp [hw, hc2, hc3, hb1, hb2, hts3, hI0, hc4, hi3, hi33])
              all_goals (
                -- 6 back.tmps
                first | done | omega | (simp_all; done) | (simp_all; omega)
              )
            ·
              try (simp [hw, hc2, hc3, hb1, hb2, hts3, hI0, hc4, hi3, hi33])
              all_goals (
                -- 7 back.objs
                first | done | omega | (simp_all; done) | (simp_all; omega)
              )
            ·
              -- 8 back.inv
              first | done | omega | (simp_all; done) | (simp_all; omega)
            ·
              -- 9 back.meas
              first | done | omega | (simp_all; done) | (simp_all; omega)
          ·
            try simp at hc4
            refine W.exit ?_
            refine thenQ_e ?_
            clear hK4 K4
            refine thenQ_e ?_
            refine blockQ_s ?_
            refine thenQ_n (hK3 _ ?_)
            clear hK3 K3
            refine W.seqR ?_
            refine WOps.call rfl rfl rfl rfl [] rfl rfl (by decide) (by simp [hw, hc2, hc3, hb1, hb2, hts3, hI0, hc4]; first | rfl | exact ⟨rfl, rfl⟩) (by simp [hw, hc2, hc3, hb1, hb2, hts3, hI0, hc4]; rfl) ?_
            refine CallT.mk (awake_ok) (by simp [hw, hc2, hc3, hb1, hb2, hts3, hI0, hc4]) ?_
            refine WOps.norm (by simp [hw, hc2, hc3, hb1, hb2, hts3, hI0, hc4]; rfl) ?_
            refine WOps.n hΓ 1 (by simp [hw, hc2, hc3, hb1, hb2, hts3, hI0, hc4]; first | rfl | exact ⟨rfl, rfl⟩) rfl ?_
            refine WOps.endK ?_
            refine W.keep [8] (by simp [hw, hc2, hc3, hb1, hb2, hts3, hI0, hc4]; rfl) ?_
            refine W.ret ?_
            refine EndQ.r false [] [] (by simp [hw, hc2, hc3, hb1, hb2, hts3, hI0, hc4]; first | rfl | exact ⟨rfl, rfl⟩) ?_
            -- 10 end
            first | done | omega | (simp_all; done) | (simp_all; omega)
      ·
        try simp at hc3
        obtain ⟨lk3, qlk3⟩ : ∃ l, l = z32.2.1 := ⟨_, rfl⟩
        have ql3 : lk3.length ≤ 8 := by rw [qlk3]; exact hz2
        have qm3 : ∀ l ∈ lk3, l.length ≤ 30 := by
          intro l hl
          rw [qlk3] at hl
          exact Nat.le_trans (qz5 l hl) (by omega)
        refine W.skip ?_
        refine thenQ_n (hK2 _ ?_)
        clear hK2 K2
        refine W.regK hΓ [11, 98, 99, 100, 103, 104, 105, 108, 109, 110, 111, 114, 115, 116, 117, 120, 121, 122, 123, 124, 125, 126] (by simp [hw, hc2, hc3]; rfl) ?_
        refine W.seqk fun K6 hK6 => ?_
        refine W.regK hΓ [11, 12, 98, 99, 100, 103, 104, 105, 108, 109, 110, 111, 114, 115, 116, 117, 120, 121, 122, 123, 124, 125, 126] (by simp [hw, hc2, hc3]; rfl) ?_
        refine W.block ?_
        obtain ⟨ts, qts⟩ : ∃ ts : List (List Turn × List (List Turn)), ts = [(ow, lk), (z32.1, z32.2.1), (z32.1, lk3)] := ⟨_, rfl⟩
        have hts3 : ts.length = 3 := by rw [qts]; rfl
        have qall : ∀ p ∈ ts, p.1.length ≤ 20 ∧ p.2.length ≤ 20 ∧ ∀ l ∈ p.2, l.length ≤ 30 := by
          intro p hp
          rw [qts] at hp
          simp only [List.mem_cons, List.not_mem_nil, or_false] at hp
          rcases hp with rfl | rfl | rfl
          · exact ⟨qw1, qw2, qw3⟩
          · exact ⟨Nat.le_trans hz1 (by omega), Nat.le_trans hz2 (by omega), fun l hl => Nat.le_trans (qz5 l hl) (by omega)⟩
          · exact ⟨Nat.le_trans hz1 (by omega), Nat.le_trans ql3 (by omega), qm3⟩
        refine W.loopU (α := Nat) [11] [13, 54, 62, 65, 73, 78, 86, 90, 95, 110, 116, 125] [408] (fun i => [(12, I i)]) (fun i => [(408, .row true 25 2 (ts.map fun p => trade p.1 p.2))]) (fun i => i ≤ 3) (fun i => 3 - i) 0 rfl (by simp [hw, hc2, hc3, hts3]; rfl) (by simp [hw, hc2, hc3, hts3]; rfl) ?_ ?_ ?_
        ·
          refine Le.fit (by simp [hw, hc2, hc3, hts3]; rfl) (by rfl) (by rfl) (by rfl) ?_ ?_
          ·
            try (simp [hw, hc2, hc3, hts3])
            all_goals (
              -- 11 init.tmps
              first | done | omega | (simp_all; done) | (simp_all; omega)
            )
          ·
            try (simp [hw, hc2, hc3, hts3])
            all_goals (
              -- 12 init.objs
              first | done | omega | (simp_all; done) | (simp_all; omega)
            )
        ·
          -- 13 init.inv
          first | done | omega | (simp_all; done) | (simp_all; omega)
        ·
          intro i hI0
          simp only [List.cons_append, List.nil_append]
          try dsimp only at hI0
          refine W.seqk fun K7 hK7 => ?_
          refine W.regK hΓ [11, 12, 55, 98, 99, 100, 103, 104, 105, 108, 109, 110, 111, 114, 115, 116, 117, 120, 121, 122, 123, 124, 125, 126] (by simp [hw, hc2, hc3, hts3, hI0]; rfl) ?_
          refine W.ite (by simp [hw, hc2, hc3, hts3, hI0]; first | rfl | exact (Bool.not_not _).symm) (fun hc6 => ?_) (fun hc6 => ?_)
          ·
            try simp at hc6
            refine W.skip ?_
            refine thenQ_n (hK7 _ ?_)
            clear hK7 K7
            refine W.seqk fun K8 hK8 => ?_
            refine W.block ?_
            have hi3 : i < ts.length := by omega
            have hi33 : i < 3 := by omega
            obtain ⟨qp1, qp2, qp3⟩ := qall ts[i] (List.getElem_mem hi3)
            refine W.seqR ?_
            refine WOps.n hΓ 4 (by simp [hw, hc2, hc3, hts3, hI0, hc6, hi3, hi33]; first | rfl | exact ⟨rfl, rfl⟩) rfl ?_
            refine WOps.call rfl rfl rfl rfl [] rfl rfl (by decide) (by simp [hw, hc2, hc3, hts3, hI0, hc6, hi3, hi33]; first | rfl | exact ⟨rfl, rfl⟩) (by simp [hw, hc2, hc3, hts3, hI0, hc6, hi3, hi33]; rfl) ?_
            refine CallT.mk (CopyTrade_ok ts[i].1 ts[i].2 (by omega) (by omega) (fun l hl => Nat.le_trans (qp3 l hl) (by omega))) (by simp [hw, hc2, hc3, hts3, hI0, hc6, hi3, hi33]) ?_
            refine WOps.norm (by simp [hw, hc2, hc3, hts3, hI0, hc6, hi3, hi33]; rfl) ?_
            refine WOps.n hΓ 2 (by simp [hw, hc2, hc3, hts3, hI0, hc6, hi3, hi33]; first | rfl | exact ⟨rfl, rfl⟩) rfl ?_
            refine WOps.endK ?_
            refine W.keep [11, 12, 13, 98, 99, 100, 103, 104, 105, 108, 109, 110, 111, 114, 115, 116, 117, 120, 121, 122, 123, 124, 125, 126] (by simp [hw, hc2, hc3, hts3, hI0, hc6, hi3, hi33]; rfl) ?_
            refine W.seqR ?_
            refine WOps.n hΓ 1 (by simp [hw, hc2, hc3, hts3, hI0, hc6, hi3, hi33]; first | rfl | exact ⟨rfl, rfl⟩) rfl ?_
            refine WOps.le (Le.freeze (id := 496) (by simp [hw, hc2, hc3, hts3, hI0, hc6, hi3, hi33]; rfl)) rfl rfl ?_
            refine WOps.le (Le.freeze (id := 497) (by simp [hw, hc2, hc3, hts3, hI0, hc6, hi3, hi33]; rfl)) rfl rfl ?_
            refine WOps.call rfl rfl rfl rfl [] rfl rfl (by decide) (by simp [hw, hc2, hc3, hts3, hI0, hc6, hi3, hi33]; first | rfl | exact ⟨rfl, rfl⟩) (by simp [hw, hc2, hc3, hts3, hI0, hc6, hi3, hi33]; rfl) ?_
            refine CallT.mk (Rings_ok _ _) (by simp [hw, hc2, hc3, hts3, hI0, hc6, hi3, hi33]) ?_
            refine WOps.norm (by simp [hw, hc2, hc3, hts3, hI0, hc6, hi3, hi33]; rfl) ?_
            refine WOps.n hΓ 5 (by simp [hw, hc2, hc3, hts3, hI0, hc6, hi3, hi33]; first | rfl | exact ⟨rfl, rfl⟩) rfl ?_
            refine WOps.endK ?_
            refine W.keep [11, 12, 13, 14, 15, 98, 99, 100, 103, 104, 105, 108, 109, 110, 111, 114, 115, 116, 117, 120, 121, 122, 123, 124, 125, 126] (by simp [hw, hc2, hc3, hts3, hI0, hc6, hi3, hi33]; rfl) ?_
            refine W.seqR ?_
            refine WOps.n hΓ 4 (by simp [hw, hc2, hc3, hts3, hI0, hc6, hi3, hi33]; first | rfl | exact ⟨rfl, rfl⟩) rfl ?_
            refine WOps.call rfl rfl rfl rfl [] rfl rfl (by decide) (by simp [hw, hc2, hc3, hts3, hI0, hc6, hi3, hi33]; first | rfl | exact ⟨rfl, rfl⟩) (by simp [hw, hc2, hc3, hts3, hI0, hc6, hi3, hi33]; rfl) ?_
            refine CallT.mk (rRings_ok _ _) (by simp [hw, hc2, hc3, hts3, hI0, hc6, hi3, hi33]) ?_
            refine WOps.norm (by simp [hw, hc2, hc3, hts3, hI0, hc6, hi3, hi33]; rfl) ?_
            refine WOps.n hΓ 5 (by simp [hw, hc2, hc3, hts3, hI0, hc6, hi3, hi33]; first | rfl | exact ⟨rfl, rfl⟩) rfl ?_
            refine WOps.endK ?_
            refine W.keep [11, 12, 13, 14, 15, 16, 17, 98, 99, 100, 103, 104, 105, 108, 109, 110, 111, 114, 115, 116, 117, 120, 121, 122, 123, 124, 125, 126] (by simp [hw, hc2, hc3, hts3, hI0, hc6, hi3, hi33]; rfl) ?_
            refine W.seqR ?_
            refine WOps.n hΓ 1 (by simp [hw, hc2, hc3, hts3, hI0, hc6, hi3, hi33]; first | rfl | exact ⟨rfl, rfl⟩) rfl ?_
            refine WOps.call rfl rfl rfl rfl [] rfl rfl (by decide) (by simp [hw, hc2, hc3, hts3, hI0, hc6, hi3, hi33]; first | rfl | exact ⟨rfl, rfl⟩) (by simp [hw, hc2, hc3, hts3, hI0, hc6, hi3, hi33]; rfl) ?_
            refine CallT.mk (Swap_ok _ _) (by simp [hw, hc2, hc3, hts3, hI0, hc6, hi3, hi33]) ?_
            refine WOps.norm (by simp [hw, hc2, hc3, hts3, hI0, hc6, hi3, hi33]; rfl) ?_
            refine WOps.n hΓ 5 (by simp [hw, hc2, hc3, hts3, hI0, hc6, hi3, hi33]; first | rfl | exact ⟨rfl, rfl⟩) rfl ?_
            refine WOps.endK ?_
            refine W.keep [11, 12, 13, 14, 15, 16, 17, 18, 19, 98, 99, 100, 103, 104, 105, 108, 109, 110, 111, 114, 115, 116, 117, 120, 121, 122, 123, 124, 125, 126] (by simp [hw, hc2, hc3, hts3, hI0, hc6, hi3, hi33]; rfl) ?_
            refine W.seqR ?_
            refine WOps.n hΓ 4 (by simp [hw, hc2, hc3, hts3, hI0, hc6, hi3, hi33]; first | rfl | exact ⟨rfl, rfl⟩) rfl ?_
            refine WOps.call rfl rfl rfl rfl [] rfl rfl (by decide) (by simp [hw, hc2, hc3, hts3, hI0, hc6, hi3, hi33]; first | rfl | exact ⟨rfl, rfl⟩) (by simp [hw, hc2, hc3, hts3, hI0, hc6, hi3, hi33]; rfl) ?_
            refine CallT.mk (rSwap_ok _ _) (by simp [hw, hc2, hc3, hts3, hI0, hc6, hi3, hi33]) ?_
            refine WOps.norm (by simp [hw, hc2, hc3, hts3, hI0, hc6, hi3, hi33]; rfl) ?_
            refine WOps.n hΓ 5 (by simp [hw, hc2, hc3, hts3, hI0, hc6, hi3, hi33]; first | rfl | exact ⟨rfl, rfl⟩) rfl ?_
            refine WOps.endK ?_
            refine W.keep [11, 12, 13, 14, 15, 16, 17, 18, 19, 20, 21, 98, 99, 100, 103, 104, 105, 108, 109, 110, 111, 114, 115, 116, 117, 120, 121, 122, 123, 124, 125, 126] (by simp [hw, hc2, hc3, hts3, hI0, hc6, hi3, hi33]; rfl) ?_
            refine W.drawT hm 36 [] (deps := [[], [0], [], [], [3, 2], [2, 3, 4], [0, 1, 4, 3, 2, 5], [5, 2, 3, 4, 6, 0, 1], [1, 0, 6, 4, 3, 2, 5, 7], [7, 5, 2, 3, 4, 6, 0, 1, 8], [7, 5, 2, 3, 4, 6, 0, 1, 8], [10, 8, 1, 0, 6, 4, 3, 2, 5, 7, 9], [9, 10, 11, 7, 5, 2, 3, 4, 6, 0, 1, 8], [8, 1, 0, 6, 4, 3, 2, 5, 7, 11, 10, 9, 12], [12, 9, 10, 11, 7, 5, 2, 3, 4, 6, 0, 1, 8, 13], [12, 9, 10, 11, 7, 5, 2, 3, 4, 6, 0, 1, 8, 13], [15, 13, 8, 1, 0, 6, 4, 3, 2, 5, 7, 11, 10, 9, 12, 14], [14, 15, 16, 12, 9, 10, 11, 7, 5, 2, 3, 4, 6, 0, 1, 8, 13], [13, 8, 1, 0, 6, 4, 3, 2, 5, 7, 11, 10, 9, 12, 16, 15, 14, 17], [17, 14, 15, 16, 12, 9, 10, 11, 7, 5, 2, 3, 4, 6, 0, 1, 8, 13, 18], [17, 14, 15, 16, 12, 9, 10, 11, 7, 5, 2, 3, 4, 6, 0, 1, 8, 13, 18], [20, 18, 13, 8, 1, 0, 6, 4, 3, 2, 5, 7, 11, 10, 9, 12, 16, 15, 14, 17, 19], [19, 17, 14, 15, 16, 12, 9, 10, 11, 7, 5, 2, 3, 4, 6, 0, 1, 8, 13, 18, 20, 21], [21, 20, 19, 22, 17, 14, 15, 16, 12, 9, 10, 11, 7, 5, 2, 3, 4, 6, 0, 1, 8, 13, 18], [18, 13, 8, 1, 0, 6, 4, 3, 2, 5, 7, 11, 10, 9, 12, 16, 15, 14, 17, 22, 19, 20, 21, 23], [23, 21, 20, 19, 22, 17, 14, 15, 16, 12, 9, 10, 11, 7, 5, 2, 3, 4, 6, 0, 1, 8, 13, 18, 24], [23, 21, 20, 19, 22, 17, 14, 15, 16, 12, 9, 10, 11, 7, 5, 2, 3, 4, 6, 0, 1, 8, 13, 18, 24], [26, 24, 18, 13, 8, 1, 0, 6, 4, 3, 2, 5, 7, 11, 10, 9, 12, 16, 15, 14, 17, 22, 19, 20, 21, 23, 25], [25, 23, 21, 20, 19, 22, 17, 14, 15, 16, 12, 9, 10, 11, 7, 5, 2, 3, 4, 6, 0, 1, 8, 13, 18, 24, 26, 27], [27, 26, 25, 28, 23, 21, 20, 19, 22, 17, 14, 15, 16, 12, 9, 10, 11, 7, 5, 2, 3, 4, 6, 0, 1, 8, 13, 18, 24], [24, 18, 13, 8, 1, 0, 6, 4, 3, 2, 5, 7, 11, 10, 9, 12, 16, 15, 14, 17, 22, 19, 20, 21, 23, 28, 25, 26, 27, 29], [29, 27, 26, 25, 28, 23, 21, 20, 19, 22, 17, 14, 15, 16, 12, 9, 10, 11, 7, 5, 2, 3, 4, 6, 0, 1, 8, 13, 18, 24, 30], [29, 27, 26, 25, 28, 23, 21, 20, 19, 22, 17, 14, 15, 16, 12, 9, 10, 11, 7, 5, 2, 3, 4, 6, 0, 1, 8, 13, 18, 24, 30], [29, 27, 26, 25, 28, 23, 21, 20, 19, 22, 17, 14, 15, 16, 12, 9, 10, 11, 7, 5, 2, 3, 4, 6, 0, 1, 8, 13, 18, 24, 30], [33, 30, 24, 18, 13, 8, 1, 0, 6, 4, 3, 2, 5, 7, 11, 10, 9, 12, 16, 15, 14, 17, 22, 19, 20, 21, 23, 28, 25, 26, 27, 29, 32], [32, 29, 27, 26, 25, 28, 23, 21, 20, 19, 22, 17, 14, 15, 16, 12, 9, 10, 11, 7, 5, 2, 3, 4, 6, 0, 1, 8, 13, 18, 24, 30, 33, 34], [34, 33, 32, 35, 30, 24, 18, 13, 8, 1, 0, 6, 4, 3, 2, 5, 7, 11, 10, 9, 12, 16, 15, 14, 17, 22, 19, 20, 21, 23, 28, 25, 26, 27, 29, 31], [31, 29, 27, 26, 25, 28, 23, 21, 20, 19, 22, 17, 14, 15, 16, 12, 9, 10, 11, 7, 5, 2, 3, 4, 6, 0, 1, 8, 13, 18, 24, 30, 35, 32, 33, 34, 36], [36, 34, 33, 32, 35, 31, 37, 29, 27, 26, 25, 28, 23, 21, 20, 19, 22, 17, 14, 15, 16, 12, 9, 10, 11, 7, 5, 2, 3, 4, 6, 0, 1, 8, 13, 18, 24, 30]]) (by rfl) (by rfl) ?_
            refine WDraw.n hΓ 1 35 rfl (by simp [hw, hc2, hc3, hts3, hI0, hc6, hi3, hi33]; exact ⟨rfl, rfl, rfl⟩) rfl ?_
            refine WDraw.callD (by simp [hw, hc2, hc3, hts3, hI0, hc6, hi3, hi33]; rfl) rfl rfl rfl [] rfl (by simp [hw, hc2, hc3, hts3, hI0, hc6, hi3, hi33]; first | rfl | exact ⟨rfl, rfl⟩) (by simp [hw, hc2, hc3, hts3, hI0, hc6, hi3, hi33]; rfl) rfl rfl (.inl rfl) ?_
            refine CallD.mk (Check_ok _ _) (by simp [hw, hc2, hc3, hts3, hI0, hc6, hi3, hi33]) ⟨(by simp [hw, hc2, hc3, hts3, hI0, hc6, hi3, hi33]), _, (by simp [hw, hc2, hc3, hts3, hI0, hc6, hi3, hi33]; rfl), ?_⟩
            refine WDraw.n hΓ 4 30 rfl (by simp [hw, hc2, hc3, hts3, hI0, hc6, hi3, hi33]; exact ⟨rfl, rfl, rfl⟩) rfl ?_
            refine WDraw.callD (by simp [hw, hc2, hc3, hts3, hI0, hc6, hi3, hi33]; rfl) rfl rfl rfl [] rfl (by simp [hw, hc2, hc3, hts3, hI0, hc6, hi3, hi33]; first | rfl | exact ⟨rfl, rfl⟩) (by simp [hw, hc2, hc3, hts3, hI0, hc6, hi3, hi33]; rfl) rfl rfl (.inl rfl) ?_
            refine CallD.mk (rCheck_ok _ _) (by simp [hw, hc2, hc3, hts3, hI0, hc6, hi3, hi33]) ⟨(by simp [hw, hc2, hc3, hts3, hI0, hc6, hi3, hi33]), _, (by simp [hw, hc2, hc3, hts3, hI0, hc6, hi3, hi33]; rfl), ?_⟩
            refine WDraw.n hΓ 2 27 rfl (by simp [hw, hc2, hc3, hts3, hI0, hc6, hi3, hi33]; exact ⟨rfl, rfl, rfl⟩) rfl ?_
            refine WDraw.gd (by simp [hw, hc2, hc3, hts3, hI0, hc6, hi3, hi33]; first | rfl | exact (Bool.not_not _).symm) rfl rfl (by simp [hw, hc2, hc3, hts3, hI0, hc6, hi3, hi33]; rfl) ?_
            (with_reducible refine DG.isT ?_); refine DGt.mk hΓ (by simp [hw, hc2, hc3, hts3, hI0, hc6, hi3, hi33]; first | rfl | exact ⟨rfl, rfl⟩) (by simp [hw, hc2, hc3, hts3, hI0, hc6, hi3, hi33]) (by simp [hw, hc2, hc3, hts3, hI0, hc6, hi3, hi33]; rfl) ?_
            refine WDraw.gd (by simp [hw, hc2, hc3, hts3, hI0, hc6, hi3, hi33]; first | rfl | exact (Bool.not_not _).symm) rfl rfl (by simp [hw, hc2, hc3, hts3, hI0, hc6, hi3, hi33]; rfl) ?_
            (with_reducible refine DG.isT ?_); refine DGt.mk hΓ (by simp [hw, hc2, hc3, hts3, hI0, hc6, hi3, hi33]; first | rfl | exact ⟨rfl, rfl⟩) (by simp [hw, hc2, hc3, hts3, hI0, hc6, hi3, hi33]) (by simp [hw, hc2, hc3, hts3, hI0, hc6, hi3, hi33]; rfl) ?_
            refine WDraw.gd (by simp [hw, hc2, hc3, hts3, hI0, hc6, hi3, hi33]; first | rfl | exact (Bool.not_not _).symm) rfl rfl (by simp [hw, hc2, hc3, hts3, hI0, hc6, hi3, hi33]; rfl) ?_
            (with_reducible refine DG.isT ?_); refine DGt.mk hΓ (by simp [hw, hc2, hc3, hts3, hI0, hc6, hi3, hi33]; first | rfl | exact ⟨rfl, rfl⟩) (by simp [hw, hc2, hc3, hts3, hI0, hc6, hi3, hi33]) (by simp [hw, hc2, hc3, hts3, hI0, hc6, hi3, hi33]; rfl) ?_
            refine WDraw.n hΓ 2 22 rfl (by simp [hw, hc2, hc3, hts3, hI0, hc6, hi3, hi33]; exact ⟨rfl, rfl, rfl⟩) rfl ?_
            refine WDraw.gd (by simp [hw, hc2, hc3, hts3, hI0, hc6, hi3, hi33]; first | rfl | exact (Bool.not_not _).symm) rfl rfl (by simp [hw, hc2, hc3, hts3, hI0, hc6, hi3, hi33]; rfl) ?_
            (with_reducible refine DG.isT ?_); refine DGt.mk hΓ (by simp [hw, hc2, hc3, hts3, hI0, hc6, hi3, hi33]; first | rfl | exact ⟨rfl, rfl⟩) (by simp [hw, hc2, hc3, hts3, hI0, hc6, hi3, hi33]) (by simp [hw, hc2, hc3, hts3, hI0, hc6, hi3, hi33]; rfl) ?_
            refine WDraw.gd (by simp [hw, hc2, hc3, hts3, hI0, hc6, hi3, hi33]; first | rfl | exact (Bool.not_not _).symm) rfl rfl (by simp [hw, hc2, hc3, hts3, hI0, hc6, hi3, hi33]; rfl) ?_
            (with_reducible refine DG.isT ?_); refine DGt.mk hΓ (by simp [hw, hc2, hc3, hts3, hI0, hc6, hi3, hi33]; first | rfl | exact ⟨rfl, rfl⟩) (by simp [hw, hc2, hc3, hts3, hI0, hc6, hi3, hi33]) (by simp [hw, hc2, hc3, hts3, hI0, hc6, hi3, hi33]; rfl) ?_
            refine WDraw.gd (by simp [hw, hc2, hc3, hts3, hI0, hc6, hi3, hi33]; first | rfl | exact (Bool.not_not _).symm) rfl rfl (by simp [hw, hc2, hc3, hts3, hI0, hc6, hi3, hi33]; rfl) ?_
            (with_reducible refine DG.isT ?_); refine DGt.mk hΓ (by simp [hw, hc2, hc3, hts3, hI0, hc6, hi3, hi33]; first | rfl | exact ⟨rfl, rfl⟩) (by simp [hw, hc2, hc3, hts3, hI0, hc6, hi3, hi33]) (by simp [hw, hc2, hc3, hts3, hI0, hc6, hi3, hi33]; rfl) ?_
            refine WDraw.n hΓ 2 17 rfl (by simp [hw, hc2, hc3, hts3, hI0, hc6, hi3, hi33]; exact ⟨rfl, rfl, rfl⟩) rfl ?_
            refine WDraw.gd (by simp [hw, hc2, hc3, hts3, hI0, hc6, hi3, hi33]; first | rfl | exact (Bool.not_not _).symm) rfl rfl (by simp [hw, hc2, hc3, hts3, hI0, hc6, hi3, hi33]; rfl) ?_
            (with_reducible refine DG.isT ?_); refine DGt.mk hΓ (by simp [hw, hc2, hc3, hts3, hI0, hc6, hi3, hi33]; first | rfl | exact ⟨rfl, rfl⟩) (by simp [hw, hc2, hc3, hts3, hI0, hc6, hi3, hi33]) (by simp [hw, hc2, hc3, hts3, hI0, hc6, hi3, hi33]; rfl) ?_
            refine WDraw.gd (by simp [hw, hc2, hc3, hts3, hI0, hc6, hi3, hi33]; first | rfl | exact (Bool.not_not _).symm) rfl rfl (by simp [hw, hc2, hc3, hts3, hI0, hc6, hi3, hi33]; rfl) ?_
            (with_reducible refine DG.isT ?_); refine DGt.mk hΓ (by simp [hw, hc2, hc3, hts3, hI0, hc6, hi3, hi33]; first | rfl | exact ⟨rfl, rfl⟩) (by simp [hw, hc2, hc3, hts3, hI0, hc6, hi3, hi33]) (by simp [hw, hc2, hc3, hts3, hI0, hc6, hi3, hi33]; rfl) ?_
            refine WDraw.gd (by simp [hw, hc2, hc3, hts3, hI0, hc6, hi3, hi33]; first | rfl | exact (Bool.not_not _).symm) rfl rfl (by simp [hw, hc2, hc3, hts3, hI0, hc6, hi3, hi33]; rfl) ?_
            (with_reducible refine DG.isT ?_)
            refine DGt.call rfl rfl [] rfl (by simp [hw, hc2, hc3, hts3, hI0, hc6, hi3, hi33]; first | rfl | exact ⟨rfl, rfl⟩) (by simp [hw, hc2, hc3, hts3, hI0, hc6, hi3, hi33]; rfl) rfl rfl (.inl rfl) ?_
            refine CallD.mk (SameTablesN _) (by simp [hw, hc2, hc3, hts3, hI0, hc6, hi3, hi33]) ⟨(by simp [hw, hc2, hc3, hts3, hI0, hc6, hi3, hi33]), _, (by simp [hw, hc2, hc3, hts3, hI0, hc6, hi3, hi33]; rfl), ?_⟩
            refine WDraw.gd (by simp [hw, hc2, hc3, hts3, hI0, hc6, hi3, hi33]; first | rfl | exact (Bool.not_not _).symm) rfl rfl (by simp [hw, hc2, hc3, hts3, hI0, hc6, hi3, hi33]; rfl) ?_
            (with_reducible refine DG.isT ?_); refine DGt.mk hΓ (by simp [hw, hc2, hc3, hts3, hI0, hc6, hi3, hi33]; first | rfl | exact ⟨rfl, rfl⟩) (by simp [hw, hc2, hc3, hts3, hI0, hc6, hi3, hi33]) (by simp [hw, hc2, hc3, hts3, hI0, hc6, hi3, hi33]; rfl) ?_
            refine WDraw.n hΓ 2 11 rfl (by simp [hw, hc2, hc3, hts3, hI0, hc6, hi3, hi33]; exact ⟨rfl, rfl, rfl⟩) rfl ?_
            refine WDraw.gd (by simp [hw, hc2, hc3, hts3, hI0, hc6, hi3, hi33]; first | rfl | exact (Bool.not_not _).symm) rfl rfl (by simp [hw, hc2, hc3, hts3, hI0, hc6, hi3, hi33]; rfl) ?_
            (with_reducible refine DG.isT ?_); refine DGt.mk hΓ (by simp [hw, hc2, hc3, hts3, hI0, hc6, hi3, hi33]; first | rfl | exact ⟨rfl, rfl⟩) (by simp [hw, hc2, hc3, hts3, hI0, hc6, hi3, hi33]) (by simp [hw, hc2, hc3, hts3, hI0, hc6, hi3, hi33]; rfl) ?_
            refine WDraw.gd (by simp [hw, hc2, hc3, hts3, hI0, hc6, hi3, hi33]; first | rfl | exact (Bool.not_not _).symm) rfl rfl (by simp [hw, hc2, hc3, hts3, hI0, hc6, hi3, hi33]; rfl) ?_
            (with_reducible refine DG.isT ?_); refine DGt.mk hΓ (by simp [hw, hc2, hc3, hts3, hI0, hc6, hi3, hi33]; first | rfl | exact ⟨rfl, rfl⟩) (by simp [hw, hc2, hc3, hts3, hI0, hc6, hi3, hi33]) (by simp [hw, hc2, hc3, hts3, hI0, hc6, hi3, hi33]; rfl) ?_
            refine WDraw.gd (by simp [hw, hc2, hc3, hts3, hI0, hc6, hi3, hi33]; first | rfl | exact (Bool.not_not _).symm) rfl rfl (by simp [hw, hc2, hc3, hts3, hI0, hc6, hi3, hi33]; rfl) ?_
            (with_reducible refine DG.isT ?_)
            refine DGt.call rfl rfl [] rfl (by simp [hw, hc2, hc3, hts3, hI0, hc6, hi3, hi33]; first | rfl | exact ⟨rfl, rfl⟩) (by simp [hw, hc2, hc3, hts3, hI0, hc6, hi3, hi33]; rfl) rfl rfl (.inl rfl) ?_
            refine CallD.mk (SameTurns_ok _ _) (by simp [hw, hc2, hc3, hts3, hI0, hc6, hi3, hi33]) ⟨(by simp [hw, hc2, hc3, hts3, hI0, hc6, hi3, hi33]), _, (by simp [hw, hc2, hc3, hts3, hI0, hc6, hi3, hi33]; rfl), ?_⟩
            refine WDraw.gd (by simp [hw, hc2, hc3, hts3, hI0, hc6, hi3, hi33]; first | rfl | exact (Bool.not_not _).symm) rfl rfl (by simp [hw, hc2, hc3, hts3, hI0, hc6, hi3, hi33]; rfl) ?_
            (with_reducible refine DG.isT ?_); refine DGt.mk hΓ (by simp [hw, hc2, hc3, hts3, hI0, hc6, hi3, hi33]; first | rfl | exact ⟨rfl, rfl⟩) (by simp [hw, hc2, hc3, hts3, hI0, hc6, hi3, hi33]) (by simp [hw, hc2, hc3, hts3, hI0, hc6, hi3, hi33]; rfl) ?_
            refine WDraw.n hΓ 2 5 rfl (by simp [hw, hc2, hc3, hts3, hI0, hc6, hi3, hi33]; exact ⟨rfl, rfl, rfl⟩) rfl ?_
            refine WDraw.gd (by simp [hw, hc2, hc3, hts3, hI0, hc6, hi3, hi33]; first | rfl | exact (Bool.not_not _).symm) rfl rfl (by simp [hw, hc2, hc3, hts3, hI0, hc6, hi3, hi33]; rfl) ?_
            (with_reducible refine DG.isT ?_); refine DGt.mk hΓ (by simp [hw, hc2, hc3, hts3, hI0, hc6, hi3, hi33]; first | rfl | exact ⟨rfl, rfl⟩) (by simp [hw, hc2, hc3, hts3, hI0, hc6, hi3, hi33]) (by simp [hw, hc2, hc3, hts3, hI0, hc6, hi3, hi33]; rfl) ?_
            refine WDraw.gd (by simp [hw, hc2, hc3, hts3, hI0, hc6, hi3, hi33]; first | rfl | exact (Bool.not_not _).symm) rfl rfl (by simp [hw, hc2, hc3, hts3, hI0, hc6, hi3, hi33]; rfl) ?_
            (with_reducible refine DG.isT ?_); refine DGt.mk hΓ (by simp [hw, hc2, hc3, hts3, hI0, hc6, hi3, hi33]; first | rfl | exact ⟨rfl, rfl⟩) (by simp [hw, hc2, hc3, hts3, hI0, hc6, hi3, hi33]) (by simp [hw, hc2, hc3, hts3, hI0, hc6, hi3, hi33]; rfl) ?_
            refine WDraw.gd (by simp [hw, hc2, hc3, hts3, hI0, hc6, hi3, hi33]; first | rfl | exact (Bool.not_not _).symm) rfl rfl (by simp [hw, hc2, hc3, hts3, hI0, hc6, hi3, hi33]; rfl) ?_
            (with_reducible refine DG.isT ?_); refine DGt.mk hΓ (by simp [hw, hc2, hc3, hts3, hI0, hc6, hi3, hi33]; first | rfl | exact ⟨rfl, rfl⟩) (by simp [hw, hc2, hc3, hts3, hI0, hc6, hi3, hi33]) (by simp [hw, hc2, hc3, hts3, hI0, hc6, hi3, hi33]; rfl) ?_
            refine WDraw.gd (by simp [hw, hc2, hc3, hts3, hI0, hc6, hi3, hi33]; first | rfl | exact (Bool.not_not _).symm) rfl rfl (by simp [hw, hc2, hc3, hts3, hI0, hc6, hi3, hi33]; rfl) ?_
            (with_reducible refine DG.isT ?_); refine DGt.mk hΓ (by simp [hw, hc2, hc3, hts3, hI0, hc6, hi3, hi33]; first | rfl | exact ⟨rfl, rfl⟩) (by simp [hw, hc2, hc3, hts3, hI0, hc6, hi3, hi33]) (by simp [hw, hc2, hc3, hts3, hI0, hc6, hi3, hi33]; rfl) ?_
            refine WDraw.gd (by simp [hw, hc2, hc3, hts3, hI0, hc6, hi3, hi33]; first | rfl | exact (Bool.not_not _).symm) rfl rfl (by simp [hw, hc2, hc3, hts3, hI0, hc6, hi3, hi33]; rfl) ?_
            (with_reducible refine DG.isT ?_); refine DGt.mk hΓ (by simp [hw, hc2, hc3, hts3, hI0, hc6, hi3, hi33]; first | rfl | exact ⟨rfl, rfl⟩) (by simp [hw, hc2, hc3, hts3, hI0, hc6, hi3, hi33]) (by simp [hw, hc2, hc3, hts3, hI0, hc6, hi3, hi33]; rfl) ?_
            refine WDraw.done (by simp [hw, hc2, hc3, hts3, hI0, hc6, hi3, hi33]; rfl) ?_
            refine WOps.gd rfl rfl (by simp [hw, hc2, hc3, hts3, hI0, hc6, hi3, hi33]; first | rfl | exact (Bool.not_not _).symm) ?_
            (with_reducible refine WG.isT ?_)
            refine WGt.call rfl rfl rfl [] rfl rfl (by decide) (by simp [hw, hc2, hc3, hts3, hI0, hc6, hi3, hi33]; first | rfl | exact ⟨rfl, rfl⟩) (by simp [hw, hc2, hc3, hts3, hI0, hc6, hi3, hi33]; rfl) ?_
            refine CallT.mk (SameTrades_ok _ _ _ _) (by simp [hw, hc2, hc3, hts3, hI0, hc6, hi3, hi33]) ?_
            refine WOps.norm (by simp [hw, hc2, hc3, hts3, hI0, hc6, hi3, hi33]; rfl) ?_
            refine WOps.gd rfl rfl (by simp [hw, hc2, hc3, hts3, hI0, hc6, hi3, hi33]; first | rfl | exact (Bool.not_not _).symm) ?_
            (with_reducible refine WG.isT ?_); refine WGt.mk hΓ rfl (by simp [hw, hc2, hc3, hts3, hI0, hc6, hi3, hi33]; first | rfl | exact ⟨rfl, rfl⟩) (by simp [hw, hc2, hc3, hts3, hI0, hc6, hi3, hi33]; rfl) ?_
            refine WOps.n hΓ 1 (by simp [hw, hc2, hc3, hts3, hI0, hc6, hi3, hi33]; first | rfl | exact ⟨rfl, rfl⟩) rfl ?_
            refine WOps.endK ?_
            refine W.keep [11, 12, 98, 99, 100, 103, 104, 105, 108, 109, 110, 111, 114, 115, 116, 117, 120, 121, 122, 123, 124, 125, 126, 127] (by simp [hw, hc2, hc3, hts3, hI0, hc6, hi3, hi33]; rfl) ?_
            refine W.cond (t := false) (by simp [hw, hc2, hc3, hts3, hI0, hc6, hi3, hi33]) ?_
            simp only [if_true, Bool.false_eq_true, if_false]
            refine W.skip ?_
            refine blockQ_n ?_
            refine thenQ_n (hK8 _ ?_)
            clear hK8 K8
            refine W.regE hΓ (by simp [hw, hc2, hc3, hts3, hI0, hc6, hi3, hi33]; (try (simp (disch := omega) only [wrap_i64, mul_i64, capOk_of]; (try simp [hw, hc2, hc3, hts3, hI0, hc6, hi3, hi33]))); rfl) ?_
            refine ⟨i + 1, Le.fit (by simp [hw, hc2, hc3, hts3, hI0, hc6, hi3, hi33]; rfl) (by rfl) (by rfl) (by rfl) ?_ ?_, ?_, ?_⟩
            ·
              try (simp [hw, hc2, hc3, hts3, hI0, hc6, hi3, hi33])
              all_goals (
                -- 14 back.tmps
                first | done | omega | (simp_all; done) | (simp_all; omega)
              )
            ·
              try (simp [hw, hc2, hc3, hts3, hI0, hc6, hi3, hi33])
              all_goals (
                -- 15 back.objs
                first | done | omega | (simp_all; done) | (simp_all; omega)
              )
            ·
              -- 16 back.inv
              first | done | omega | (simp_all; done) | (simp_all; omega)
            ·
              -- 17 back.meas
              first | done | omega | (simp_all; done) | (simp_all; omega)
          ·
            try simp at hc6
            refine W.exit ?_
            refine thenQ_e ?_
            clear hK7 K7
            refine thenQ_e ?_
            refine blockQ_s ?_
            refine thenQ_n (hK6 _ ?_)
            clear hK6 K6
            refine W.seqR ?_
            refine WOps.call rfl rfl rfl rfl [] rfl rfl (by decide) (by simp [hw, hc2, hc3, hts3, hI0, hc6]; first | rfl | exact ⟨rfl, rfl⟩) (by simp [hw, hc2, hc3, hts3, hI0, hc6]; rfl) ?_
            refine CallT.mk (awake_ok) (by simp [hw, hc2, hc3, hts3, hI0, hc6]) ?_
            refine WOps.norm (by simp [hw, hc2, hc3, hts3, hI0, hc6]; rfl) ?_
            refine WOps.n hΓ 1 (by simp [hw, hc2, hc3, hts3, hI0, hc6]; first | rfl | exact ⟨rfl, rfl⟩) rfl ?_
            refine WOps.endK ?_
            refine W.keep [8] (by simp [hw, hc2, hc3, hts3, hI0, hc6]; rfl) ?_
            refine W.ret ?_
            refine EndQ.r false [] [] (by simp [hw, hc2, hc3, hts3, hI0, hc6]; first | rfl | exact ⟨rfl, rfl⟩) ?_
            -- 18 end
            first | done | omega | (simp_all; done) | (simp_all; omega)
end Go.Sim
