/- The reference's check, rings and swap. -/
import Derived.Test.YtggbbldoopfejaaVl
namespace Go.Sim
open Go.Proofs Go.Plain
set_option maxRecDepth 100000
set_option linter.unusedSimpArgs false
attribute [-simp] List.map_set List.map_take List.map_drop
attribute [local simp] take_map' drop_map'
theorem idx_take_lt {l : List Turn} {i : Nat} (h : i < l.length) : (l.take i).idxOf l[i] < i ↔ l[i] ∈ l.take i := by
  have := List.idxOf_lt_length_iff (a := l[i]) (l := l.take i)
  rwa [List.length_take, Nat.min_eq_left (by omega)] at this
set_option maxHeartbeats 4000000 in
theorem rCheck_ok (ow : List Turn) (lk : List (List Turn)) : ACalls Try.prog 22 [trade ow lk] [] (fun r o => r = I (checkT ow lk) ∧ o = []) := by
  refine ACalls.enter hΓ Try.func22 rfl (by kernel_rfl) Try.ntmps22 (by rw [Try.results22]) (by simp) (by simp; rfl) ?_
  refine W.regK hΓ [1] (by simp; rfl) ?_
  refine W.seqk fun K1 hK1 => ?_
  refine W.regK hΓ [1, 9] (by simp; rfl) ?_
  refine W.ite (by simp; first | rfl | exact (Bool.not_not _).symm) (fun hc1 => ?_) (fun hc1 => ?_)
  ·
    try simp at hc1
    refine W.regK hΓ [2] (by simp [hc1]; rfl) ?_
    refine W.ret ?_
    refine thenQ_r ?_
    clear hK1 K1
    refine EndQ.r false [] [] (by simp [hc1]; first | rfl | exact ⟨rfl, rfl⟩) ?_
    -- 1 end
    exact ⟨by rw [checkT, if_pos (by omega)], rfl⟩
  ·
    try simp at hc1
    refine W.skip ?_
    refine thenQ_n (hK1 _ ?_)
    clear hK1 K1
    refine W.seqk fun K2 hK2 => ?_
    refine W.regK hΓ [1, 16] (by simp [hc1]; rfl) ?_
    refine W.ite (by simp [hc1]; first | rfl | exact (Bool.not_not _).symm) (fun hc2 => ?_) (fun hc2 => ?_)
    ·
      try simp at hc2
      refine W.regK hΓ [2] (by simp [hc1, hc2]; rfl) ?_
      refine W.ret ?_
      refine thenQ_r ?_
      clear hK2 K2
      refine EndQ.r false [] [] (by simp [hc1, hc2]; first | rfl | exact ⟨rfl, rfl⟩) ?_
      -- 2 end
      exact ⟨by rw [checkT, if_neg (by omega), if_pos (by omega)], rfl⟩
    ·
      try simp at hc2
      refine W.skip ?_
      refine thenQ_n (hK2 _ ?_)
      clear hK2 K2
      refine W.seqk fun K3 hK3 => ?_
      refine W.regK hΓ [1, 3] (by simp [hc1, hc2]; rfl) ?_
      refine W.block ?_
      refine W.loopU (α := Nat) [1] [20, 29, 40, 49, 53, 61, 70] [] (fun i => [(3, I i)]) (fun i => []) (fun i => i ≤ ow.length ∧ chkO [] ow lk = chkO (ow.take i) (ow.drop i) (lk.drop i)) (fun i => ow.length - i) 0 rfl (by simp [hc1, hc2]; rfl) (by simp [hc1, hc2]; rfl) ?_ ?_ ?_
      ·
        refine Le.fit (by simp [hc1, hc2]; rfl) (by rfl) (by rfl) (by rfl) ?_ ?_
        ·
          try (simp [hc1, hc2])
          all_goals (
            -- 3 init.tmps
            first | done | omega | (simp_all; done) | (simp_all; omega)
          )
        ·
          try (simp [hc1, hc2])
          all_goals (
            -- 4 init.objs
            first | done | omega | (simp_all; done) | (simp_all; omega)
          )
      ·
        -- 5 init.inv
        first | done | omega | (simp_all; done) | (simp_all; omega)
      ·
        intro i hI0
        simp only [List.cons_append, List.nil_append]
        try dsimp only at hI0
        obtain ⟨hi, he⟩ := hI0
        refine W.seqk fun K4 hK4 => ?_
        refine W.regK hΓ [1, 3, 21] (by simp [hc1, hc2, hi]; rfl) ?_
        refine W.ite (by simp [hc1, hc2, hi]; first | rfl | exact (Bool.not_not _).symm) (fun hc3 => ?_) (fun hc3 => ?_)
        ·
          try simp at hc3
          have qix := idx_take_lt hc3
          refine W.skip ?_
          refine thenQ_n (hK4 _ ?_)
          clear hK4 K4
          refine W.seqk fun K5 hK5 => ?_
          refine W.block ?_
          refine W.seqk fun K6 hK6 => ?_
          refine W.seqR ?_
          refine WOps.n hΓ 5 (by simp [hc1, hc2, hi, hc3]; first | rfl | exact ⟨rfl, rfl⟩) rfl ?_
          refine WOps.call rfl rfl rfl rfl [] rfl rfl (by decide) (by simp [hc1, hc2, hi, hc3]; first | rfl | exact ⟨rfl, rfl⟩) (by simp [hc1, hc2, hi, hc3]; rfl) ?_
          refine CallT.mk (rvalid_ok _ _) (by simp [hc1, hc2, hi, hc3]) ?_
          refine WOps.norm (by simp [hc1, hc2, hi, hc3]; rfl) ?_
          refine WOps.n hΓ 1 (by simp [hc1, hc2, hi, hc3]; first | rfl | exact ⟨rfl, rfl⟩) rfl ?_
          refine WOps.endK ?_
          refine W.keep [1, 3, 30] (by simp [hc1, hc2, hi, hc3]; rfl) ?_
          refine W.ite (by simp [hc1, hc2, hi, hc3]; first | rfl | exact (Bool.not_not _).symm) (fun hc4 => ?_) (fun hc4 => ?_)
          ·
            try simp at hc4
            refine W.regK hΓ [2] (by simp [hc1, hc2, hi, hc3, hc4]; rfl) ?_
            refine W.ret ?_
            refine thenQ_r ?_
            clear hK6 K6
            refine blockQ_r ?_
            refine thenQ_r ?_
            clear hK5 K5
            refine thenQ_r ?_
            refine blockQ_r ?_
            refine thenQ_r ?_
            clear hK3 K3
            refine EndQ.r false [] [] (by simp [hc1, hc2, hi, hc3, hc4]; first | rfl | exact ⟨rfl, rfl⟩) ?_
            -- 6 end
            refine ⟨congrArg I ?_, rfl⟩
            rw [checkT, if_neg (by omega), if_neg (by omega), he, chkO_at hc3 (by omega), if_pos hc4]
          ·
            try simp at hc4
            refine W.skip ?_
            refine thenQ_n (hK6 _ ?_)
            clear hK6 K6
            refine W.seqk fun K7 hK7 => ?_
            refine W.drawT hm 11 [] (deps := [[], [0], [], [2, 0, 1], [], [4], [], [6, 4, 5], [5, 4, 6, 7], [7, 6, 4, 5, 8, 1, 0, 2, 3], [], [10, 3, 2, 0, 1, 8, 5, 4, 6, 7, 9]]) (by rfl) (by rfl) ?_
            refine WDraw.n hΓ 9 2 rfl (by simp [hc1, hc2, hi, hc3, hc4]; exact ⟨rfl, rfl, rfl⟩) rfl ?_
            refine WDraw.callD (by simp [hc1, hc2, hi, hc3, hc4]; rfl) rfl rfl rfl [] rfl (by simp [hc1, hc2, hi, hc3, hc4]; first | rfl | exact ⟨rfl, rfl⟩) (by simp [hc1, hc2, hi, hc3, hc4]; rfl) rfl rfl (.inl rfl) ?_
            refine CallD.mk (At_ok _ _ _) (by simp [hc1, hc2, hi, hc3, hc4]) ⟨(by simp [hc1, hc2, hi, hc3, hc4]), _, (by simp [hc1, hc2, hi, hc3, hc4]; rfl), ?_⟩
            refine WDraw.n hΓ 1 0 rfl (by simp [hc1, hc2, hi, hc3, hc4]; exact ⟨rfl, rfl, rfl⟩) rfl ?_
            refine WDraw.done (by simp [hc1, hc2, hi, hc3, hc4]; rfl) ?_
            refine WOps.n hΓ 1 (by simp [hc1, hc2, hi, hc3, hc4]; first | rfl | exact ⟨rfl, rfl⟩) rfl ?_
            refine WOps.endK ?_
            refine W.keep [1, 3, 42] (by simp [hc1, hc2, hi, hc3, hc4]; rfl) ?_
            refine W.ite (by simp [hc1, hc2, hi, hc3, hc4]; first | rfl | exact (Bool.not_not _).symm) (fun hc5 => ?_) (fun hc5 => ?_)
            ·
              try simp at hc5
              refine W.regK hΓ [2] (by simp [hc1, hc2, hi, hc3, hc4, hc5]; rfl) ?_
              refine W.ret ?_
              refine thenQ_r ?_
              clear hK7 K7
              refine blockQ_r ?_
              refine thenQ_r ?_
              clear hK5 K5
              refine thenQ_r ?_
              refine blockQ_r ?_
              refine thenQ_r ?_
              clear hK3 K3
              refine EndQ.r false [] [] (by simp [hc1, hc2, hi, hc3, hc4, hc5]; first | rfl | exact ⟨rfl, rfl⟩) ?_
              -- 7 end
              refine ⟨congrArg I ?_, rfl⟩
              rw [checkT, if_neg (by omega), if_neg (by omega), he, chkO_at hc3 (by omega), if_neg (by simp [show validT ow[i] = true from hc4]), if_pos (qix.1 hc5)]
            ·
              try simp at hc5
              refine W.skip ?_
              refine thenQ_n (hK7 _ ?_)
              clear hK7 K7
              have hkl : i < lk.length := by omega
              refine W.regK hΓ [1, 3, 4] (by simp [hc1, hc2, hi, hc3, hc4, hc5, hkl]; rfl) ?_
              refine W.seqk fun K8 hK8 => ?_
              refine W.regK hΓ [1, 3, 4, 50] (by simp [hc1, hc2, hi, hc3, hc4, hc5, hkl]; rfl) ?_
              refine W.ite (by simp [hc1, hc2, hi, hc3, hc4, hc5, hkl]; first | rfl | exact (Bool.not_not _).symm) (fun hc6 => ?_) (fun hc6 => ?_)
              ·
                try simp at hc6
                refine W.regK hΓ [2] (by simp [hc1, hc2, hi, hc3, hc4, hc5, hkl, hc6]; rfl) ?_
                refine W.ret ?_
                refine thenQ_r ?_
                clear hK8 K8
                refine blockQ_r ?_
                refine thenQ_r ?_
                clear hK5 K5
                refine thenQ_r ?_
                refine blockQ_r ?_
                refine thenQ_r ?_
                clear hK3 K3
                refine EndQ.r false [] [] (by simp [hc1, hc2, hi, hc3, hc4, hc5, hkl, hc6]; first | rfl | exact ⟨rfl, rfl⟩) ?_
                -- 8 end
                refine ⟨congrArg I ?_, rfl⟩
                rw [checkT, if_neg (by omega), if_neg (by omega), he, chkO_at hc3 (by omega), if_neg (by simp [show validT ow[i] = true from hc4]), if_neg (fun h => by have := qix.2 h; have h5 : i ≤ (ow.take i).idxOf ow[i] := hc5; omega), if_pos (by omega)]
              ·
                try simp at hc6
                refine W.skip ?_
                refine thenQ_n (hK8 _ ?_)
                clear hK8 K8
                refine W.regK hΓ [1, 3, 4, 5] (by simp [hc1, hc2, hi, hc3, hc4, hc5, hkl, hc6]; rfl) ?_
                refine W.block ?_
                refine W.loopU (α := Nat) [1, 3, 4] [53, 61, 70] [] (fun k => [(5, I k)]) (fun k => []) (fun k => k ≤ lk[i].length ∧ chkL [] lk[i] = chkL (lk[i].take k) (lk[i].drop k)) (fun k => lk[i].length - k) 0 rfl (by simp [hc1, hc2, hi, hc3, hc4, hc5, hkl, hc6]; rfl) (by simp [hc1, hc2, hi, hc3, hc4, hc5, hkl, hc6]; rfl) ?_ ?_ ?_
                ·
                  refine Le.fit (by simp [hc1, hc2, hi, hc3, hc4, hc5, hkl, hc6]; rfl) (by rfl) (by rfl) (by rfl) ?_ ?_
                  ·
                    try (simp [hc1, hc2, hi, hc3, hc4, hc5, hkl, hc6])
                    all_goals (
                      -- 9 init.tmps
                      first | done | omega | (simp_all; done) | (simp_all; omega)
                    )
                  ·
                    try (simp [hc1, hc2, hi, hc3, hc4, hc5, hkl, hc6])
                    all_goals (
                      -- 10 init.objs
                      first | done | omega | (simp_all; done) | (simp_all; omega)
                    )
                ·
                  -- 11 init.inv
                  first | done | omega | (simp_all; done) | (simp_all; omega)
                ·
                  intro k hI1
                  simp only [List.cons_append, List.nil_append]
                  try dsimp only at hI1
                  obtain ⟨hk, hf⟩ := hI1
                  refine W.seqk fun K9 hK9 => ?_
                  refine W.regK hΓ [1, 3, 4, 5, 54] (by simp [hc1, hc2, hi, hc3, hc4, hc5, hkl, hc6, hk]; rfl) ?_
                  refine W.ite (by simp [hc1, hc2, hi, hc3, hc4, hc5, hkl, hc6, hk]; first | rfl | exact (Bool.not_not _).symm) (fun hc7 => ?_) (fun hc7 => ?_)
                  ·
                    try simp at hc7
                    have qixk := idx_take_lt (l := lk[i]) hc7
                    refine W.skip ?_
                    refine thenQ_n (hK9 _ ?_)
                    clear hK9 K9
                    refine W.seqk fun K10 hK10 => ?_
                    refine W.block ?_
                    refine W.seqk fun K11 hK11 => ?_
                    refine W.seqR ?_
                    refine WOps.n hΓ 4 (by simp [hc1, hc2, hi, hc3, hc4, hc5, hkl, hc6, hk, hc7]; first | rfl | exact ⟨rfl, rfl⟩) rfl ?_
                    refine WOps.call rfl rfl rfl rfl [] rfl rfl (by decide) (by simp [hc1, hc2, hi, hc3, hc4, hc5, hkl, hc6, hk, hc7]; first | rfl | exact ⟨rfl, rfl⟩) (by simp [hc1, hc2, hi, hc3, hc4, hc5, hkl, hc6, hk, hc7]; rfl) ?_
                    refine CallT.mk (rvalid_ok _ _) (by simp [hc1, hc2, hi, hc3, hc4, hc5, hkl, hc6, hk, hc7]) ?_
                    refine WOps.norm (by simp [hc1, hc2, hi, hc3, hc4, hc5, hkl, hc6, hk, hc7]; rfl) ?_
                    refine WOps.n hΓ 1 (by simp [hc1, hc2, hi, hc3, hc4, hc5, hkl, hc6, hk, hc7]; first | rfl | exact ⟨rfl, rfl⟩) rfl ?_
                    refine WOps.endK ?_
                    refine W.keep [1, 3, 4, 5, 62] (by simp [hc1, hc2, hi, hc3, hc4, hc5, hkl, hc6, hk, hc7]; rfl) ?_
                    refine W.ite (by simp [hc1, hc2, hi, hc3, hc4, hc5, hkl, hc6, hk, hc7]; first | rfl | exact (Bool.not_not _).symm) (fun hc8 => ?_) (fun hc8 => ?_)
                    ·
                      try simp at hc8
                      refine W.regK hΓ [2] (by simp [hc1, hc2, hi, hc3, hc4, hc5, hkl, hc6, hk, hc7, hc8]; rfl) ?_
                      refine W.ret ?_
                      refine thenQ_r ?_
                      clear hK11 K11
                      refine blockQ_r ?_
                      refine thenQ_r ?_
                      clear hK10 K10
                      refine thenQ_r ?_
                      refine blockQ_r ?_
                      refine blockQ_r ?_
                      refine thenQ_r ?_
                      clear hK5 K5
                      refine thenQ_r ?_
                      refine blockQ_r ?_
                      refine thenQ_r ?_
                      clear hK3 K3
                      refine EndQ.r false [] [] (by simp [hc1, hc2, hi, hc3, hc4, hc5, hkl, hc6, hk, hc7, hc8]; first | rfl | exact ⟨rfl, rfl⟩) ?_
                      -- 12 end
                      refine ⟨congrArg I ?_, rfl⟩
                      rw [checkT, if_neg (by omega), if_neg (by omega), he, chkO_at hc3 (by omega), if_neg (by simp [show validT ow[i] = true from hc4]), if_neg (fun h => by have := qix.2 h; have h5 : i ≤ (ow.take i).idxOf ow[i] := hc5; omega), if_neg (by omega), hf, chkL_at hc7, if_pos hc8]; rfl
                    ·
                      try simp at hc8
                      refine W.skip ?_
                      refine thenQ_n (hK11 _ ?_)
                      clear hK11 K11
                      refine W.drawT hm 9 [] (deps := [[], [], [1, 0], [], [], [4, 3], [3, 4, 5], [5, 4, 3, 6, 0, 1, 2], [], [8, 2, 1, 0, 6, 3, 4, 5, 7]]) (by rfl) (by rfl) ?_
                      refine WDraw.n hΓ 7 2 rfl (by simp [hc1, hc2, hi, hc3, hc4, hc5, hkl, hc6, hk, hc7, hc8]; exact ⟨rfl, rfl, rfl⟩) rfl ?_
                      refine WDraw.callD (by simp [hc1, hc2, hi, hc3, hc4, hc5, hkl, hc6, hk, hc7, hc8]; rfl) rfl rfl rfl [] rfl (by simp [hc1, hc2, hi, hc3, hc4, hc5, hkl, hc6, hk, hc7, hc8]; first | rfl | exact ⟨rfl, rfl⟩) (by simp [hc1, hc2, hi, hc3, hc4, hc5, hkl, hc6, hk, hc7, hc8]; rfl) rfl rfl (.inl rfl) ?_
                      refine CallD.mk (At_ok _ _ _) (by simp [hc1, hc2, hi, hc3, hc4, hc5, hkl, hc6, hk, hc7, hc8]) ⟨(by simp [hc1, hc2, hi, hc3, hc4, hc5, hkl, hc6, hk, hc7, hc8]), _, (by simp [hc1, hc2, hi, hc3, hc4, hc5, hkl, hc6, hk, hc7, hc8]; rfl), ?_⟩
                      refine WDraw.n hΓ 1 0 rfl (by simp [hc1, hc2, hi, hc3, hc4, hc5, hkl, hc6, hk, hc7, hc8]; exact ⟨rfl, rfl, rfl⟩) rfl ?_
                      refine WDraw.done (by simp [hc1, hc2, hi, hc3, hc4, hc5, hkl, hc6, hk, hc7, hc8]; rfl) ?_
                      refine WOps.n hΓ 1 (by simp [hc1, hc2, hi, hc3, hc4, hc5, hkl, hc6, hk, hc7, hc8]; first | rfl | exact ⟨rfl, rfl⟩) rfl ?_
                      refine WOps.endK ?_
                      refine W.keep [1, 3, 4, 5, 72] (by simp [hc1, hc2, hi, hc3, hc4, hc5, hkl, hc6, hk, hc7, hc8]; rfl) ?_
                      refine W.ite (by simp [hc1, hc2, hi, hc3, hc4, hc5, hkl, hc6, hk, hc7, hc8]; first | rfl | exact (Bool.not_not _).symm) (fun hc9 => ?_) (fun hc9 => ?_)
                      ·
                        try simp at hc9
                        refine W.regK hΓ [2] (by simp [hc1, hc2, hi, hc3, hc4, hc5, hkl, hc6, hk, hc7, hc8, hc9]; rfl) ?_
                        refine W.ret ?_
                        refine blockQ_r ?_
                        refine thenQ_r ?_
                        clear hK10 K10
                        refine thenQ_r ?_
                        refine blockQ_r ?_
                        refine blockQ_r ?_
                        refine thenQ_r ?_
                        clear hK5 K5
                        refine thenQ_r ?_
                        refine blockQ_r ?_
                        refine thenQ_r ?_
                        clear hK3 K3
                        refine EndQ.r false [] [] (by simp [hc1, hc2, hi, hc3, hc4, hc5, hkl, hc6, hk, hc7, hc8, hc9]; first | rfl | exact ⟨rfl, rfl⟩) ?_
                        -- 13 end
                        refine ⟨congrArg I ?_, rfl⟩
                        rw [checkT, if_neg (by omega), if_neg (by omega), he, chkO_at hc3 (by omega), if_neg (by simp [show validT ow[i] = true from hc4]), if_neg (fun h => by have := qix.2 h; have h5 : i ≤ (ow.take i).idxOf ow[i] := hc5; omega), if_neg (by omega), hf, chkL_at hc7, if_neg (show ¬ validT lk[i][k] = false by simp [show validT lk[i][k] = true from hc8]), if_pos (qixk.1 hc9)]; rfl
                      ·
                        try simp at hc9
                        refine W.skip ?_
                        refine blockQ_n ?_
                        refine thenQ_n (hK10 _ ?_)
                        clear hK10 K10
                        refine W.regE hΓ (by simp [hc1, hc2, hi, hc3, hc4, hc5, hkl, hc6, hk, hc7, hc8, hc9]; (try (simp (disch := omega) only [wrap_i64, mul_i64, capOk_of]; (try simp [hc1, hc2, hi, hc3, hc4, hc5, hkl, hc6, hk, hc7, hc8, hc9]))); rfl) ?_
                        refine ⟨k + 1, Le.fit (by simp [hc1, hc2, hi, hc3, hc4, hc5, hkl, hc6, hk, hc7, hc8, hc9]; rfl) (by rfl) (by rfl) (by rfl) ?_ ?_, ?_, ?_⟩
                        ·
                          try (simp [hc1, hc2, hi, hc3, hc4, hc5, hkl, hc6, hk, hc7, hc8, hc9])
                          all_goals (
                            -- 14 back.tmps
                            first | done | omega | (simp_all; done) | (simp_all; omega)
                          )
                        ·
                          try (simp [hc1, hc2, hi, hc3, hc4, hc5, hkl, hc6, hk, hc7, hc8, hc9])
                          all_goals (
                            -- 15 back.objs
                            first | done | omega | (simp_all; done) | (simp_all; omega)
                          )
                        ·
                          -- 16 back.inv
                          exact ⟨by omega, by rw [hf, chkL_at hc7, if_neg (by simp [show validT lk[i][k] = true from hc8]), if_neg (fun h => by have := qixk.2 h; have h5 : k ≤ (lk[i].take k).idxOf lk[i][k] := hc9; omega)]⟩
                        ·
                          -- 17 back.meas
                          first | done | omega | (simp_all; done) | (simp_all; omega)
                  ·
                    try simp at hc7
                    refine W.exit ?_
                    refine thenQ_e ?_
                    clear hK9 K9
                    refine thenQ_e ?_
                    refine blockQ_s ?_
                    refine blockQ_n ?_
                    refine thenQ_n (hK5 _ ?_)
                    clear hK5 K5
                    refine W.regE hΓ (by simp [hc1, hc2, hi, hc3, hc4, hc5, hkl, hc6, hk, hc7]; (try (simp (disch := omega) only [wrap_i64, mul_i64, capOk_of]; (try simp [hc1, hc2, hi, hc3, hc4, hc5, hkl, hc6, hk, hc7]))); rfl) ?_
                    refine ⟨i + 1, Le.fit (by simp [hc1, hc2, hi, hc3, hc4, hc5, hkl, hc6, hk, hc7]; rfl) (by rfl) (by rfl) (by rfl) ?_ ?_, ?_, ?_⟩
                    ·
                      try (simp [hc1, hc2, hi, hc3, hc4, hc5, hkl, hc6, hk, hc7])
                      all_goals (
                        -- 18 back.tmps
                        first | done | omega | (simp_all; done) | (simp_all; omega)
                      )
                    ·
                      try (simp [hc1, hc2, hi, hc3, hc4, hc5, hkl, hc6, hk, hc7])
                      all_goals (
                        -- 19 back.objs
                        first | done | omega | (simp_all; done) | (simp_all; omega)
                      )
                    ·
                      -- 20 back.inv
                      exact ⟨by omega, by rw [he, chkO_at hc3 (by omega), if_neg (by simp [show validT ow[i] = true from hc4]), if_neg (fun h => by have := qix.2 h; have h5 : i ≤ (ow.take i).idxOf ow[i] := hc5; omega), if_neg (by omega), if_pos (by rw [hf, List.drop_of_length_le hc7]; rfl)]⟩
                    ·
                      -- 21 back.meas
                      first | done | omega | (simp_all; done) | (simp_all; omega)
        ·
          try simp at hc3
          refine W.exit ?_
          refine thenQ_e ?_
          clear hK4 K4
          refine thenQ_e ?_
          refine blockQ_s ?_
          refine thenQ_n (hK3 _ ?_)
          clear hK3 K3
          refine W.regK hΓ [2] (by simp [hc1, hc2, hi, hc3]; rfl) ?_
          refine W.ret ?_
          refine EndQ.r false [] [] (by simp [hc1, hc2, hi, hc3]; first | rfl | exact ⟨rfl, rfl⟩) ?_
          -- 22 end
          refine ⟨congrArg I ?_, rfl⟩
          rw [checkT, if_neg (by omega), if_neg (by omega), he, List.drop_of_length_le hc3]; rfl
/-- the turns that a trader takes -/
def takesT (ow : List Turn) (lk : List (List Turn)) (i : Nat) : List Turn := (nth lk i).take ((nth lk i).idxOf (nth ow i)) ++ [nth ow i]
theorem takesT_eq {ow : List Turn} {lk : List (List Turn)} {i : Nat} (hi : i < ow.length) (hk : i < lk.length) : takesT ow lk i = lk[i].take (lk[i].idxOf ow[i]) ++ [ow[i]] := by rw [takesT, nth_get hi, nth_get hk]
set_option maxHeartbeats 4000000 in
theorem Takes_own (ow : List Turn) (lk : List (List Turn)) (i : Nat) (hi : i < ow.length) (hk : i < lk.length) (h16 : lk[i].length ≤ 1000) : ACalls Try.prog 72 [trade ow lk, I i] [] (fun r o => r = .own 20000 0 (takesT ow lk i).length ∧ o = [(20000, .row true 55 2 ((takesT ow lk i).map T))]) := by
  refine ACalls.enter hΓ Try.func72 rfl (by kernel_rfl) Try.ntmps72 (by rw [Try.results72]) (by simp) (by simp [hi, hk]; rfl) ?_
  have hidx : lk[i].idxOf (ow[i].1, ow[i].2) ≤ lk[i].length := List.idxOf_le_length
  refine W.regK hΓ [1, 2] (by simp [hi, hk, hidx]; rfl) ?_
  refine W.regK hΓ [1, 2, 5] (by simp [hi, hk, hidx]; rfl) ?_
  refine W.drawT hm 17 [(10, [88])] (deps := [[], [], [], [], [3], [], [5, 3, 4], [4, 3, 5, 6], [6, 5, 3, 4, 7, 2], [2, 7, 4, 3, 5, 6, 8, 1], [1, 8, 6, 5, 3, 4, 7, 2, 9, 0], [], [11], [], [13, 11, 12], [12, 11, 13, 14], [14, 13, 11, 12, 15], [15, 12, 11, 13, 14, 16, 0, 9, 2, 7, 4, 3, 5, 6, 8, 1, 10], [10, 1, 8, 6, 5, 3, 4, 7, 2, 9, 0, 16, 14, 13, 11, 12, 15, 17]]) (by rfl) (by rfl) ?_
  refine WDraw.n hΓ 8 9 rfl (by simp [hi, hk, hidx]; exact ⟨rfl, rfl, rfl⟩) rfl ?_
  refine WDraw.callD (by simp [hi, hk, hidx]; rfl) rfl rfl rfl [] rfl (by simp [hi, hk, hidx]; first | rfl | exact ⟨rfl, rfl⟩) (by simp [hi, hk, hidx]; rfl) rfl rfl (.inl rfl) ?_
  refine CallD.mk (At_ok _ _ _) (by simp [hi, hk, hidx]) ⟨(by simp [hi, hk, hidx]), _, (by simp [hi, hk, hidx]; rfl), ?_⟩
  refine WDraw.n hΓ 1 7 rfl (by simp [hi, hk, hidx]; exact ⟨rfl, rfl, rfl⟩) rfl ?_
  refine WDraw.app hΓ [88] (by simp [hi, hk, hidx]; rfl) (by first | rfl | simp) (by simp [hi, hk, hidx]; (try (simp (disch := omega) only [wrap_i64, mul_i64, capOk_of]; (try simp [hi, hk, hidx]))); first | rfl | exact ⟨rfl, rfl⟩) (by first | rfl | simp) (by simp [hi, hk, hidx]; first | done | rfl) (.inr (by simp)) (by simp [hi, hk, hidx]; rfl) ?_
  refine WDraw.n hΓ 6 0 rfl (by simp [hi, hk, hidx]; exact ⟨rfl, rfl, rfl⟩) rfl ?_
  refine WDraw.done (by simp [hi, hk, hidx]; rfl) ?_
  refine WOps.n hΓ 2 (by simp [hi, hk, hidx]; (try (simp (disch := omega) only [wrap_i64, mul_i64, capOk_of]; (try simp [hi, hk, hidx]))); first | rfl | exact ⟨rfl, rfl⟩) rfl ?_
  refine WOps.endK ?_
  refine W.keep [4] (by simp [hi, hk, hidx]; rfl) ?_
  refine W.ret ?_
  refine EndQ.r false [] [(20000, 168)] (by simp [hi, hk, hidx]; first | rfl | exact ⟨rfl, rfl⟩) ?_
  -- 1 end
  rw [takesT_eq hi hk]
  exact ⟨by simp [List.idxOf_le_length], by simp⟩
theorem Takes_imm (ow : List Turn) (lk : List (List Turn)) (i : Nat) (hi : i < ow.length) (hk : i < lk.length) (h16 : lk[i].length ≤ 1000) : ACalls Try.prog 72 [trade ow lk, I i] [] (fun r o => r = turns (takesT ow lk i) ∧ o = []) :=
  (ACalls.frzs [20000] (Takes_own ow lk i hi hk h16) (by simp; rfl) (by simp; rfl)).mono (fun r o h => ⟨h.1.trans (by simp), h.2⟩)
end Go.Sim
