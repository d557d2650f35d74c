/- SwapRings: the law's walk. -/
import Derived.Test.YtggbbldoopfejaaVo
namespace Go.Sim
open Go.Proofs Go.Plain
set_option maxRecDepth 100000
set_option linter.unusedSimpArgs false
attribute [-simp] List.map_set List.map_take List.map_drop
attribute [local simp] take_map' drop_map'
/-- more than the statements go through -/
def wideT (ow : List Turn) (lk : List (List Turn)) : Bool := ((lk.take 20).any fun l => decide (30 < l.length)) || (decide (20 < ow.length) || decide (20 < lk.length))
theorem wideT_false {ow : List Turn} {lk : List (List Turn)} (h : wideT ow lk = false) : ow.length ≤ 20 ∧ lk.length ≤ 20 ∧ ∀ l ∈ lk, l.length ≤ 30 := by
  simp only [wideT, Bool.or_eq_false_iff, decide_eq_false_iff_not, List.any_eq_false, decide_eq_true_eq] at h
  obtain ⟨h1, h2, h3⟩ := h
  refine ⟨by omega, by omega, fun l hl => ?_⟩
  have := h1 l (by rw [List.take_of_length_le (by omega)]; exact hl)
  omega
set_option maxHeartbeats 4000000 in
theorem wide_ok (ow : List Turn) (lk : List (List Turn)) : ACalls Try.prog 11 [trade ow lk] [] (fun r o => r = B (wideT ow lk) ∧ o = []) := by
  refine ACalls.enter hΓ Try.func11 rfl (by kernel_rfl) Try.ntmps11 (by rw [Try.results11]) (by simp) (by simp; rfl) ?_
  refine W.regK hΓ [1, 10, 11, 27, 28, 29, 30] (by simp; rfl) ?_
  refine W.seqk fun K1 hK1 => ?_
  refine W.regK hΓ [1, 3, 10, 11, 27, 28, 29, 30] (by simp; rfl) ?_
  refine W.block ?_
  refine W.loopU (α := Nat) [1, 27, 28, 29, 30] [7, 20] [] (fun i => [(3, I i)]) (fun i => []) (fun i => i ≤ lk.length ∧ i ≤ 20 ∧ ((lk.take 20).any fun l => decide (30 < l.length)) = ((lk.take 20).drop i).any fun l => decide (30 < l.length)) (fun i => lk.length - i) 0 rfl (by simp; rfl) (by simp; rfl) ?_ ?_ ?_
  ·
    refine Le.fit (by simp; rfl) (by rfl) (by rfl) (by rfl) ?_ ?_
    ·
      try (simp)
      all_goals (
        -- 1 init.tmps
        first | done | omega | (simp_all; done) | (simp_all; omega)
      )
    ·
      try (simp)
      all_goals (
        -- 2 init.objs
        first | done | omega | (simp_all; done) | (simp_all; omega)
      )
  ·
    -- 3 init.inv
    exact ⟨by omega, by omega, rfl⟩
  ·
    intro i hI0
    simp only [List.cons_append, List.nil_append]
    try dsimp only at hI0
    obtain ⟨hi, hi20, he⟩ := hI0
    refine W.seqk fun K2 hK2 => ?_
    by_cases hlt : i < lk.length
    ·
      by_cases h20 : (i : Int) < 20
      ·
        refine W.seqR ?_
        refine WOps.n hΓ 6 (by simp [hi, hi20, hlt, h20]; first | rfl | exact ⟨rfl, rfl⟩) rfl ?_
        refine WOps.gd rfl rfl (by simp [hi, hi20, hlt, h20]; first | rfl | exact (Bool.not_not _).symm) ?_
        (with_reducible refine WG.isT ?_); refine WGt.mk hΓ rfl (by simp [hi, hi20, hlt, h20]; first | rfl | exact ⟨rfl, rfl⟩) (by simp [hi, hi20, hlt, h20]; rfl) ?_
        refine WOps.gd rfl rfl (by simp [hi, hi20, hlt, h20]; first | rfl | exact (Bool.not_not _).symm) ?_
        (with_reducible refine WG.isT ?_); refine WGt.mk hΓ rfl (by simp [hi, hi20, hlt, h20]; first | rfl | exact ⟨rfl, rfl⟩) (by simp [hi, hi20, hlt, h20]; rfl) ?_
        refine WOps.n hΓ 1 (by simp [hi, hi20, hlt, h20]; first | rfl | exact ⟨rfl, rfl⟩) rfl ?_
        refine WOps.endK ?_
        refine W.keep [1, 3, 10, 11, 12, 27, 28, 29, 30] (by simp [hi, hi20, hlt, h20]; rfl) ?_
        refine W.cond (t := true) (by simp [hi, hi20, hlt, h20]) ?_
        simp only [if_true, Bool.false_eq_true, if_false]
        refine W.skip ?_
        refine thenQ_n (hK2 _ ?_)
        clear hK2 K2
        refine W.seqk fun K3 hK3 => ?_
        refine W.block ?_
        refine W.regK hΓ [1, 3, 10, 11, 21, 27, 28, 29, 30] (by simp [hi, hi20, hlt, h20]; rfl) ?_
        refine W.ite (by simp [hi, hi20, hlt, h20]; first | rfl | exact (Bool.not_not _).symm) (fun hc2 => ?_) (fun hc2 => ?_)
        ·
          try simp at hc2
          refine W.regK hΓ [2] (by simp [hi, hi20, hlt, h20, hc2]; rfl) ?_
          refine W.ret ?_
          refine blockQ_r ?_
          refine thenQ_r ?_
          clear hK3 K3
          refine thenQ_r ?_
          refine blockQ_r ?_
          refine thenQ_r ?_
          clear hK1 K1
          refine EndQ.r false [] [] (by simp [hi, hi20, hlt, h20, hc2]; first | rfl | exact ⟨rfl, rfl⟩) ?_
          -- 4 end
          exact ⟨by rw [wideT, he, any_drop (by simp; omega), show (lk.take 20)[i]'(by simp; omega) = lk[i] by simp, decide_eq_true (by omega)]; rfl, rfl⟩
        ·
          try simp at hc2
          refine W.skip ?_
          refine blockQ_n ?_
          refine thenQ_n (hK3 _ ?_)
          clear hK3 K3
          refine W.regE hΓ (by simp [hi, hi20, hlt, h20, hc2]; (try (simp (disch := omega) only [wrap_i64, mul_i64, capOk_of]; (try simp [hi, hi20, hlt, h20, hc2]))); rfl) ?_
          refine ⟨i + 1, Le.fit (by simp [hi, hi20, hlt, h20, hc2]; rfl) (by rfl) (by rfl) (by rfl) ?_ ?_, ?_, ?_⟩
          ·
            try (simp [hi, hi20, hlt, h20, hc2])
            all_goals (
              -- 5 back.tmps
              first | done | omega | (simp_all; done) | (simp_all; omega)
            )
          ·
            try (simp [hi, hi20, hlt, h20, hc2])
            all_goals (
              -- 6 back.objs
              first | done | omega | (simp_all; done) | (simp_all; omega)
            )
          ·
            -- 7 back.inv
            exact ⟨by omega, by omega, by rw [he, any_drop (by simp; omega), show (lk.take 20)[i]'(by simp; omega) = lk[i] by simp, decide_eq_false (by omega), Bool.false_or]⟩
          ·
            -- 8 back.meas
            first | done | omega | (simp_all; done) | (simp_all; omega)
      ·
        refine W.seqR ?_
        refine WOps.n hΓ 6 (by simp [hi, hi20, hlt, h20]; first | rfl | exact ⟨rfl, rfl⟩) rfl ?_
        refine WOps.gd rfl rfl (by simp [hi, hi20, hlt, h20]; first | rfl | exact (Bool.not_not _).symm) ?_
        (with_reducible refine WG.isT ?_); refine WGt.mk hΓ rfl (by simp [hi, hi20, hlt, h20]; first | rfl | exact ⟨rfl, rfl⟩) (by simp [hi, hi20, hlt, h20]; rfl) ?_
        refine WOps.gd rfl rfl (by simp [hi, hi20, hlt, h20]; first | rfl | exact (Bool.not_not _).symm) ?_
        (with_reducible refine WG.isT ?_); refine WGt.mk hΓ rfl (by simp [hi, hi20, hlt, h20]; first | rfl | exact ⟨rfl, rfl⟩) (by simp [hi, hi20, hlt, h20]; rfl) ?_
        refine WOps.n hΓ 1 (by simp [hi, hi20, hlt, h20]; first | rfl | exact ⟨rfl, rfl⟩) rfl ?_
        refine WOps.endK ?_
        refine W.keep [1, 3, 10, 11, 12, 27, 28, 29, 30] (by simp [hi, hi20, hlt, h20]; rfl) ?_
        refine W.cond (t := false) (by simp [hi, hi20, hlt, h20]) ?_
        simp only [if_true, Bool.false_eq_true, if_false]
        refine W.exit ?_
        refine thenQ_e ?_
        clear hK2 K2
        refine thenQ_e ?_
        refine blockQ_s ?_
        refine thenQ_n (hK1 _ ?_)
        clear hK1 K1
        by_cases hbig : 20 < (ow.length : Int)
        ·
          refine W.seqR ?_
          refine WOps.n hΓ 5 (by simp [hi, hi20, hlt, h20, hbig]; first | rfl | exact ⟨rfl, rfl⟩) rfl ?_
          refine WOps.gd rfl rfl (by simp [hi, hi20, hlt, h20, hbig]; first | rfl | exact (Bool.not_not _).symm) ?_
          (with_reducible refine WG.isF ?_); refine WGf.mk rfl (by simp [hi, hi20, hlt, h20, hbig]; rfl) ?_
          refine WOps.gd rfl rfl (by simp [hi, hi20, hlt, h20, hbig]; first | rfl | exact (Bool.not_not _).symm) ?_
          (with_reducible refine WG.isF ?_); refine WGf.mk rfl (by simp [hi, hi20, hlt, h20, hbig]; rfl) ?_
          refine WOps.gd rfl rfl (by simp [hi, hi20, hlt, h20, hbig]; first | rfl | exact (Bool.not_not _).symm) ?_
          (with_reducible refine WG.isF ?_); refine WGf.mk rfl (by simp [hi, hi20, hlt, h20, hbig]; rfl) ?_
          refine WOps.gd rfl rfl (by simp [hi, hi20, hlt, h20, hbig]; first | rfl | exact (Bool.not_not _).symm) ?_
          (with_reducible refine WG.isF ?_); refine WGf.mk rfl (by simp [hi, hi20, hlt, h20, hbig]; rfl) ?_
          refine WOps.n hΓ 2 (by simp [hi, hi20, hlt, h20, hbig]; first | rfl | exact ⟨rfl, rfl⟩) rfl ?_
          refine WOps.endK ?_
          refine W.keep [2] (by simp [hi, hi20, hlt, h20, hbig]; rfl) ?_
          refine W.ret ?_
          refine EndQ.r false [] [] (by simp [hi, hi20, hlt, h20, hbig]; first | rfl | exact ⟨rfl, rfl⟩) ?_
          -- 9 end
          refine ⟨?_, rfl⟩
          rw [wideT, he, List.drop_of_length_le (by rw [List.length_take]; omega), List.any_nil, Bool.false_or, decide_eq_true (by omega), Bool.true_or]
        ·
          refine W.seqR ?_
          refine WOps.n hΓ 5 (by simp [hi, hi20, hlt, h20, hbig]; first | rfl | exact ⟨rfl, rfl⟩) rfl ?_
          refine WOps.gd rfl rfl (by simp [hi, hi20, hlt, h20, hbig]; first | rfl | exact (Bool.not_not _).symm) ?_
          (with_reducible refine WG.isT ?_); refine WGt.mk hΓ rfl (by simp [hi, hi20, hlt, h20, hbig]; first | rfl | exact ⟨rfl, rfl⟩) (by simp [hi, hi20, hlt, h20, hbig]; rfl) ?_
          refine WOps.gd rfl rfl (by simp [hi, hi20, hlt, h20, hbig]; first | rfl | exact (Bool.not_not _).symm) ?_
          (with_reducible refine WG.isT ?_); refine WGt.mk hΓ rfl (by simp [hi, hi20, hlt, h20, hbig]; first | rfl | exact ⟨rfl, rfl⟩) (by simp [hi, hi20, hlt, h20, hbig]; rfl) ?_
          refine WOps.gd rfl rfl (by simp [hi, hi20, hlt, h20, hbig]; first | rfl | exact (Bool.not_not _).symm) ?_
          (with_reducible refine WG.isT ?_); refine WGt.mk hΓ rfl (by simp [hi, hi20, hlt, h20, hbig]; first | rfl | exact ⟨rfl, rfl⟩) (by simp [hi, hi20, hlt, h20, hbig]; rfl) ?_
          refine WOps.gd rfl rfl (by simp [hi, hi20, hlt, h20, hbig]; first | rfl | exact (Bool.not_not _).symm) ?_
          (with_reducible refine WG.isT ?_); refine WGt.mk hΓ rfl (by simp [hi, hi20, hlt, h20, hbig]; first | rfl | exact ⟨rfl, rfl⟩) (by simp [hi, hi20, hlt, h20, hbig]; rfl) ?_
          refine WOps.n hΓ 2 (by simp [hi, hi20, hlt, h20, hbig]; first | rfl | exact ⟨rfl, rfl⟩) rfl ?_
          refine WOps.endK ?_
          refine W.keep [2] (by simp [hi, hi20, hlt, h20, hbig]; rfl) ?_
          refine W.ret ?_
          refine EndQ.r false [] [] (by simp [hi, hi20, hlt, h20, hbig]; first | rfl | exact ⟨rfl, rfl⟩) ?_
          -- 10 end
          refine ⟨?_, rfl⟩
          rw [wideT, he, List.drop_of_length_le (by rw [List.length_take]; omega), List.any_nil, Bool.false_or, show decide (20 < ow.length) = false from decide_eq_false (by omega), Bool.false_or]
          exact congrArg B (by rw [decide_eq_decide]; omega)
    ·
      refine W.seqR ?_
      refine WOps.n hΓ 6 (by simp [hi, hi20, hlt]; first | rfl | exact ⟨rfl, rfl⟩) rfl ?_
      refine WOps.gd rfl rfl (by simp [hi, hi20, hlt]; first | rfl | exact (Bool.not_not _).symm) ?_
      (with_reducible refine WG.isF ?_); refine WGf.mk rfl (by simp [hi, hi20, hlt]; rfl) ?_
      refine WOps.gd rfl rfl (by simp [hi, hi20, hlt]; first | rfl | exact (Bool.not_not _).symm) ?_
      (with_reducible refine WG.isF ?_); refine WGf.mk rfl (by simp [hi, hi20, hlt]; rfl) ?_
      refine WOps.n hΓ 1 (by simp [hi, hi20, hlt]; first | rfl | exact ⟨rfl, rfl⟩) rfl ?_
      refine WOps.endK ?_
      refine W.keep [1, 3, 10, 11, 12, 27, 28, 29, 30] (by simp [hi, hi20, hlt]; rfl) ?_
      refine W.cond (t := false) (by simp [hi, hi20, hlt]) ?_
      simp only [if_true, Bool.false_eq_true, if_false]
      refine W.exit ?_
      refine thenQ_e ?_
      clear hK2 K2
      refine thenQ_e ?_
      refine blockQ_s ?_
      refine thenQ_n (hK1 _ ?_)
      clear hK1 K1
      by_cases hbig : 20 < (ow.length : Int)
      ·
        refine W.seqR ?_
        refine WOps.n hΓ 5 (by simp [hi, hi20, hlt, hbig]; first | rfl | exact ⟨rfl, rfl⟩) rfl ?_
        refine WOps.gd rfl rfl (by simp [hi, hi20, hlt, hbig]; first | rfl | exact (Bool.not_not _).symm) ?_
        (with_reducible refine WG.isF ?_); refine WGf.mk rfl (by simp [hi, hi20, hlt, hbig]; rfl) ?_
        refine WOps.gd rfl rfl (by simp [hi, hi20, hlt, hbig]; first | rfl | exact (Bool.not_not _).symm) ?_
        (with_reducible refine WG.isF ?_); refine WGf.mk rfl (by simp [hi, hi20, hlt, hbig]; rfl) ?_
        refine WOps.gd rfl rfl (by simp [hi, hi20, hlt, hbig]; first | rfl | exact (Bool.not_not _).symm) ?_
        (with_reducible refine WG.isF ?_); refine WGf.mk rfl (by simp [hi, hi20, hlt, hbig]; rfl) ?_
        refine WOps.gd rfl rfl (by simp [hi, hi20, hlt, hbig]; first | rfl | exact (Bool.not_not _).symm) ?_
        (with_reducible refine WG.isF ?_); refine WGf.mk rfl (by simp [hi, hi20, hlt, hbig]; rfl) ?_
        refine WOps.n hΓ 2 (by simp [hi, hi20, hlt, hbig]; first | rfl | exact ⟨rfl, rfl⟩) rfl ?_
        refine WOps.endK ?_
        refine W.keep [2] (by simp [hi, hi20, hlt, hbig]; rfl) ?_
        refine W.ret ?_
        refine EndQ.r false [] [] (by simp [hi, hi20, hlt, hbig]; first | rfl | exact ⟨rfl, rfl⟩) ?_
        -- 11 end
        refine ⟨?_, rfl⟩
        rw [wideT, he, List.drop_of_length_le (by rw [List.length_take]; omega), List.any_nil, Bool.false_or, decide_eq_true (by omega), Bool.true_or]
      ·
        refine W.seqR ?_
        refine WOps.n hΓ 5 (by simp [hi, hi20, hlt, hbig]; first | rfl | exact ⟨rfl, rfl⟩) rfl ?_
        refine WOps.gd rfl rfl (by simp [hi, hi20, hlt, hbig]; first | rfl | exact (Bool.not_not _).symm) ?_
        (with_reducible refine WG.isT ?_); refine WGt.mk hΓ rfl (by simp [hi, hi20, hlt, hbig]; first | rfl | exact ⟨rfl, rfl⟩) (by simp [hi, hi20, hlt, hbig]; rfl) ?_
        refine WOps.gd rfl rfl (by simp [hi, hi20, hlt, hbig]; first | rfl | exact (Bool.not_not _).symm) ?_
        (with_reducible refine WG.isT ?_); refine WGt.mk hΓ rfl (by simp [hi, hi20, hlt, hbig]; first | rfl | exact ⟨rfl, rfl⟩) (by simp [hi, hi20, hlt, hbig]; rfl) ?_
        refine WOps.gd rfl rfl (by simp [hi, hi20, hlt, hbig]; first | rfl | exact (Bool.not_not _).symm) ?_
        (with_reducible refine WG.isT ?_); refine WGt.mk hΓ rfl (by simp [hi, hi20, hlt, hbig]; first | rfl | exact ⟨rfl, rfl⟩) (by simp [hi, hi20, hlt, hbig]; rfl) ?_
        refine WOps.gd rfl rfl (by simp [hi, hi20, hlt, hbig]; first | rfl | exact (Bool.not_not _).symm) ?_
        (with_reducible refine WG.isT ?_); refine WGt.mk hΓ rfl (by simp [hi, hi20, hlt, hbig]; first | rfl | exact ⟨rfl, rfl⟩) (by simp [hi, hi20, hlt, hbig]; rfl) ?_
        refine WOps.n hΓ 2 (by simp [hi, hi20, hlt, hbig]; first | rfl | exact ⟨rfl, rfl⟩) rfl ?_
        refine WOps.endK ?_
        refine W.keep [2] (by simp [hi, hi20, hlt, hbig]; rfl) ?_
        refine W.ret ?_
        refine EndQ.r false [] [] (by simp [hi, hi20, hlt, hbig]; first | rfl | exact ⟨rfl, rfl⟩) ?_
        -- 12 end
        refine ⟨?_, rfl⟩
        rw [wideT, he, List.drop_of_length_le (by rw [List.length_take]; omega), List.any_nil, Bool.false_or, show decide (20 < ow.length) = false from decide_eq_false (by omega), Bool.false_or]
        exact congrArg B (by rw [decide_eq_decide]; omega)
end Go.Sim
