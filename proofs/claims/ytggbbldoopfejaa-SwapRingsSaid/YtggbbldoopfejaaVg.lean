/- The program's Rings, Swap, CheckHeld. -/
import Derived.Test.YtggbbldoopfejaaVf
namespace Go.Sim
open Go.Proofs Go.Plain
set_option maxRecDepth 100000
set_option linter.unusedSimpArgs false
attribute [-simp] List.map_set List.map_take List.map_drop
attribute [local simp] take_map' drop_map'
/-- the rings of a trade, if it is valid -/
def ringsT (ow : List Turn) (lk : List (List Turn)) : List (List Nat) := if checkT ow lk = 0 then allRings (ptF ow lk) ow.length else []
theorem checkT_lt (ow : List Turn) (lk : List (List Turn)) (h : checkT ow lk ≠ 0) : ringsT ow lk = [] := if_neg h
instance : NthD Nat := ⟨0⟩
set_option maxHeartbeats 4000000 in
theorem Rings_ok (ow : List Turn) (lk : List (List Turn)) : ACalls Try.prog 17 [trade ow lk] [] (fun r o => r = .tup [tabsN (ringsT ow lk), I (checkT ow lk)] ∧ o = []) := by
  refine ACalls.enter hΓ Try.func17 rfl (by kernel_rfl) Try.ntmps17 (by rw [Try.results17]) (by simp) (by simp; rfl) ?_
  refine W.regK hΓ [1] (by simp; rfl) ?_
  refine W.seqk fun K1 hK1 => ?_
  refine W.seqR ?_
  refine WOps.n hΓ 1 (by simp; first | rfl | exact ⟨rfl, rfl⟩) rfl ?_
  refine WOps.call rfl rfl rfl rfl [] rfl rfl (by decide) (by simp; first | rfl | exact ⟨rfl, rfl⟩) (by simp; rfl) ?_
  refine CallT.mk (Check_ok _ _) (by simp) ?_
  refine WOps.norm (by simp; rfl) ?_
  refine WOps.n hΓ 1 (by simp; first | rfl | exact ⟨rfl, rfl⟩) rfl ?_
  refine WOps.endK ?_
  refine W.keep [1, 4] (by simp; rfl) ?_
  refine W.regK hΓ [1, 4, 8] (by simp; rfl) ?_
  refine W.ite (by simp; first | rfl | exact (Bool.not_not _).symm) (fun hc1 => ?_) (fun hc1 => ?_)
  ·
    try simp at hc1
    refine W.regK hΓ [2, 3] (by simp [hc1]; rfl) ?_
    refine W.ret ?_
    refine thenQ_r ?_
    clear hK1 K1
    refine EndQ.r true [] [] (by simp [hc1]; first | rfl | exact ⟨rfl, rfl⟩) ?_
    -- 1 end
    exact ⟨by rw [checkT_lt _ _ (by simpa using hc1)]; rfl, rfl⟩
  ·
    try simp at hc1
    have hv : ValidT ow lk := checkT_zero.1 (by simpa using hc1)
    refine W.skip ?_
    refine thenQ_n (hK1 _ ?_)
    clear hK1 K1
    refine W.seqR ?_
    refine WOps.n hΓ 1 (by simp [hc1, hv]; first | rfl | exact ⟨rfl, rfl⟩) rfl ?_
    refine WOps.call rfl rfl rfl rfl [] rfl rfl (by decide) (by simp [hc1, hv]; first | rfl | exact ⟨rfl, rfl⟩) (by simp [hc1, hv]; rfl) ?_
    refine CallT.mk (rings_ok ow lk hv) (by simp [hc1, hv]) ?_
    refine WOps.norm (by simp [hc1, hv]; rfl) ?_
    refine WOps.n hΓ 2 (by simp [hc1, hv]; first | rfl | exact ⟨rfl, rfl⟩) rfl ?_
    refine WOps.endK ?_
    refine W.keep [2, 3] (by simp [hc1, hv]; rfl) ?_
    refine W.ret ?_
    refine EndQ.r true [] [] (by simp [hc1, hv]; first | rfl | exact ⟨rfl, rfl⟩) ?_
    -- 2 end
    have h0 : checkT ow lk = 0 := by simpa using hc1
    exact ⟨by rw [ringsT, if_pos h0, h0], rfl⟩
theorem ringsF_mem {g : List Nat → Nat → Nat} {n : Nat} (hg : ∀ L, Closed (g L) L) : ∀ {k : Nat} {L : List Nat}, L.Nodup → (∀ x ∈ L, x < n) → ∀ r ∈ ringsF g n k L, (∀ x ∈ r, x < n) ∧ r.length ≤ n
  | 0, L, _, _, r, hr => by simp [ringsF] at hr
  | k + 1, L, hd, hL, r, hr => by
    rw [ringsF] at hr
    split at hr
    · cases hr
    · rcases List.mem_append.1 hr with h | h
      · obtain ⟨m, hm, h⟩ := (mem_roundF (hg L) (le_of_nodup_lt hd hL) hL).1 h
        obtain ⟨h1, _⟩ := h.mem (hg L) hm
        obtain ⟨k, hF, _, e⟩ := h
        exact ⟨fun x hx => hL x (h1 x hx), by rw [e, orb_length]; exact Nat.le_trans (hF.le (hg L) hm) (le_of_nodup_lt hd hL)⟩
      · exact ringsF_mem hg (eraseAll_nodup hd) (fun x hx => hL x ((eraseAll_sub _ _).subset hx)) r h
theorem allRings_mem (ow : List Turn) (lk : List (List Turn)) : ∀ r ∈ allRings (ptF ow lk) ow.length, (∀ x ∈ r, x < ow.length) ∧ r.length ≤ ow.length := ringsF_mem (ptF_closed ow lk) List.nodup_range fun _ => List.mem_range.1
theorem ringsF_length {g : List Nat → Nat → Nat} {n : Nat} (hg : ∀ L, Closed (g L) L) : ∀ {k : Nat} {L : List Nat}, L.Nodup → (∀ x ∈ L, x < n) → (ringsF g n k L).length ≤ n * k
  | 0, L, _, _ => by simp [ringsF]
  | k + 1, L, hd, hL => by
    rw [ringsF]
    split
    · simp
    · have h1 := ringsF_length hg (k := k) (eraseAll_nodup (l := (roundF (g L) L n).flatten) hd) (fun x hx => hL x ((eraseAll_sub _ _).subset hx))
      have h2 : (roundF (g L) L n).length ≤ n := by
        have := List.length_filterMap_le (fun i => if i ∈ L then ringP (g L) n i else none) (List.range n)
        simpa [roundF] using this
      rw [List.length_append, Nat.mul_succ]; omega
theorem allRings_length (ow : List Turn) (lk : List (List Turn)) : (allRings (ptF ow lk) ow.length).length ≤ ow.length * ow.length := by
  have := ringsF_length (ptF_closed ow lk) (k := ow.length) (n := ow.length) List.nodup_range fun _ => List.mem_range.1
  simpa [allRings] using this
/-- what a ring hands on, of its first ones -/
def giveK (ow : List Turn) (r : List Nat) (out : List Turn) (k : Nat) : List Turn := (List.range k).foldl (fun o j => o.set (nth r j) (nth ow (nth r ((j + 1) % r.length)))) out
def giveR (ow : List Turn) (rs : List (List Nat)) (out : List Turn) : List Turn := rs.foldl (fun o r => giveK ow r o r.length) out
theorem giveK_zero (ow : List Turn) (r : List Nat) (out : List Turn) : giveK ow r out 0 = out := rfl
theorem giveK_succ (ow : List Turn) (r : List Nat) (out : List Turn) (k : Nat) : giveK ow r out (k + 1) = (giveK ow r out k).set (nth r k) (nth ow (nth r ((k + 1) % r.length))) := by simp [giveK, List.range_succ]
theorem giveK_length (ow : List Turn) (r : List Nat) (out : List Turn) : ∀ k, (giveK ow r out k).length = out.length
  | 0 => rfl
  | k + 1 => by rw [giveK_succ, List.length_set, giveK_length ow r out k]
theorem giveR_snoc (ow : List Turn) (rs : List (List Nat)) (r : List Nat) (out : List Turn) : giveR ow (rs ++ [r]) out = giveK ow r (giveR ow rs out) r.length := by simp [giveR]
theorem giveR_length (ow : List Turn) : ∀ (rs : List (List Nat)) (out : List Turn), (giveR ow rs out).length = out.length
  | [], _ => rfl
  | r :: rs, out => by
    have := giveR_length ow rs (giveK ow r out r.length)
    rw [giveK_length] at this; exact this
/-- the turns after the swap -/
def swapT (ow : List Turn) (lk : List (List Turn)) : List Turn := if checkT ow lk = 0 then giveR ow (allRings (ptF ow lk) ow.length) (List.replicate ow.length (0, 0)) else []
theorem emod_succ (k l : Nat) : ((k : Int) + 1) % (l : Int) = (((k + 1) % l : Nat) : Int) := rfl
theorem giveK_at {ow : List Turn} {r : List Nat} {out : List Turn} {k : Nat} (hk : k < r.length) {n : Nat} (hn : n = (k + 1) % r.length) (h2 : n < r.length) (h1 : r[n] < ow.length) : giveK ow r out (k + 1) = (giveK ow r out k).set r[k] ow[r[n]] := by
  subst hn
  rw [giveK_succ, nth_get hk, nth_get h2, nth_get h1]
attribute [local simp] giveK_length giveR_length
set_option maxHeartbeats 4000000 in
theorem Swap_ok (ow : List Turn) (lk : List (List Turn)) : ACalls Try.prog 19 [trade ow lk] [] (fun r o => r = .tup [turns (swapT ow lk), I (checkT ow lk)] ∧ o = []) := by
  refine ACalls.enter hΓ Try.func19 rfl (by kernel_rfl) Try.ntmps19 (by rw [Try.results19]) (by simp) (by simp; rfl) ?_
  refine W.regK hΓ [1] (by simp; rfl) ?_
  refine W.seqk fun K1 hK1 => ?_
  refine W.seqR ?_
  refine WOps.n hΓ 1 (by simp; first | rfl | exact ⟨rfl, rfl⟩) rfl ?_
  refine WOps.call rfl rfl rfl rfl [] rfl rfl (by decide) (by simp; first | rfl | exact ⟨rfl, rfl⟩) (by simp; rfl) ?_
  refine CallT.mk (Check_ok _ _) (by simp) ?_
  refine WOps.norm (by simp; rfl) ?_
  refine WOps.n hΓ 1 (by simp; first | rfl | exact ⟨rfl, rfl⟩) rfl ?_
  refine WOps.endK ?_
  refine W.keep [1, 4] (by simp; rfl) ?_
  refine W.regK hΓ [1, 4, 13] (by simp; rfl) ?_
  refine W.ite (by simp; first | rfl | exact (Bool.not_not _).symm) (fun hc1 => ?_) (fun hc1 => ?_)
  ·
    try simp at hc1
    refine W.regK hΓ [2, 3] (by simp [hc1]; rfl) ?_
    refine W.ret ?_
    refine thenQ_r ?_
    clear hK1 K1
    refine EndQ.r true [] [] (by simp [hc1]; first | rfl | exact ⟨rfl, rfl⟩) ?_
    -- 1 end
    exact ⟨by rw [swapT, if_neg hc1]; rfl, rfl⟩
  ·
    try simp at hc1
    have hv : ValidT ow lk := checkT_zero.1 (by simpa using hc1)
    have hn8 : ow.length ≤ 8 := hv.most
    have hnn : (ow.length : Int) ≤ 16777216 := by omega
    refine W.skip ?_
    refine thenQ_n (hK1 _ ?_)
    clear hK1 K1
    refine W.regK hΓ [1, 5] (by simp [hc1, hv, hn8, hnn]; rfl) ?_
    refine W.seqk fun K2 hK2 => ?_
    refine W.seqR ?_
    refine WOps.n hΓ 1 (by simp [hc1, hv, hn8, hnn]; first | rfl | exact ⟨rfl, rfl⟩) rfl ?_
    refine WOps.call rfl rfl rfl rfl [] rfl rfl (by decide) (by simp [hc1, hv, hn8, hnn]; first | rfl | exact ⟨rfl, rfl⟩) (by simp [hc1, hv, hn8, hnn]; rfl) ?_
    refine CallT.mk (rings_ok ow lk hv) (by simp [hc1, hv, hn8, hnn]) ?_
    refine WOps.norm (by simp [hc1, hv, hn8, hnn]; rfl) ?_
    refine WOps.n hΓ 2 (by simp [hc1, hv, hn8, hnn]; first | rfl | exact ⟨rfl, rfl⟩) rfl ?_
    refine WOps.endK ?_
    refine W.keep [1, 5, 20, 21, 22] (by simp [hc1, hv, hn8, hnn]; rfl) ?_
    refine W.block ?_
    have qml := allRings_mem ow lk
    have qll : (allRings (ptF ow lk) ow.length).length ≤ 64 := Nat.le_trans (allRings_length ow lk) (Nat.mul_le_mul hn8 hn8)
    have q1 : (List.replicate ow.length (.agg [I 0, I 0]) : List AV) = (List.replicate ow.length ((0, 0) : Turn)).map T := by simp
    try rw [q1]
    refine W.loopU (α := Nat) [1, 5, 20, 21] [27, 41] [144] (fun j => [(22, I j)]) (fun j => [(144, .row true 55 2 ((giveR ow ((allRings (ptF ow lk) ow.length).take j) (List.replicate ow.length (0, 0))).map T))]) (fun j => j ≤ (allRings (ptF ow lk) ow.length).length) (fun j => (allRings (ptF ow lk) ow.length).length - j) 0 rfl (by simp [hc1, hv, hn8, hnn]; rfl) (by simp [hc1, hv, hn8, hnn]; rfl) ?_ ?_ ?_
    ·
      refine Le.fit (by simp [hc1, hv, hn8, hnn]; rfl) (by rfl) (by rfl) (by rfl) ?_ ?_
      ·
        try (simp [hc1, hv, hn8, hnn])
        all_goals (
          -- 2 init.tmps
          first | done | omega | (simp_all; done) | (simp_all; omega)
        )
      ·
        try (simp [hc1, hv, hn8, hnn])
        all_goals (
          -- 3 init.objs
          exact q1
        )
    ·
      -- 4 init.inv
      first | done | omega | (simp_all; done) | (simp_all; omega)
    ·
      intro j hI0
      simp only [List.cons_append, List.nil_append]
      try dsimp only at hI0
      refine W.regK hΓ [1, 5, 20, 21, 22, 23] (by simp [hc1, hv, hn8, hnn, hI0]; rfl) ?_
      refine W.seqk fun K3 hK3 => ?_
      refine W.ite (by simp [hc1, hv, hn8, hnn, hI0]; first | rfl | exact (Bool.not_not _).symm) (fun hc2 => ?_) (fun hc2 => ?_)
      ·
        try simp at hc2
        refine W.skip ?_
        refine thenQ_n (hK3 _ ?_)
        clear hK3 K3
        refine W.seqk fun K4 hK4 => ?_
        refine W.block ?_
        refine W.regK hΓ [1, 5, 7, 20, 21, 22] (by simp [hc1, hv, hn8, hnn, hI0, hc2]; rfl) ?_
        refine W.regK hΓ [1, 5, 7, 20, 21, 22, 26, 27, 28] (by simp [hc1, hv, hn8, hnn, hI0, hc2]; rfl) ?_
        refine W.block ?_
        have qmm := qml _ (List.getElem_mem hc2)
        refine W.loopU (α := Nat) [1, 5, 7, 20, 21, 22, 26, 27] [41] [144] (fun k => [(28, I k)]) (fun k => [(144, .row true 55 2 ((giveK ow (allRings (ptF ow lk) ow.length)[j] (giveR ow ((allRings (ptF ow lk) ow.length).take j) (List.replicate ow.length (0, 0))) k).map T))]) (fun k => k ≤ (allRings (ptF ow lk) ow.length)[j].length) (fun k => (allRings (ptF ow lk) ow.length)[j].length - k) 0 rfl (by simp [hc1, hv, hn8, hnn, hI0, hc2]; rfl) (by simp [hc1, hv, hn8, hnn, hI0, hc2]; rfl) ?_ ?_ ?_
        ·
          refine Le.fit (by simp [hc1, hv, hn8, hnn, hI0, hc2]; rfl) (by rfl) (by rfl) (by rfl) ?_ ?_
          ·
            try (simp [hc1, hv, hn8, hnn, hI0, hc2])
            all_goals (
              -- 5 init.tmps
              first | done | omega | (simp_all; done) | (simp_all; omega)
            )
          ·
            try (simp [hc1, hv, hn8, hnn, hI0, hc2])
            all_goals (
              -- 6 init.objs
              rfl
            )
        ·
          -- 7 init.inv
          first | done | omega | (simp_all; done) | (simp_all; omega)
        ·
          intro k hI1
          simp only [List.cons_append, List.nil_append]
          try dsimp only at hI1
          refine W.regK hΓ [1, 5, 7, 20, 21, 22, 26, 27, 28, 29] (by simp [hc1, hv, hn8, hnn, hI0, hc2, hI1]; rfl) ?_
          refine W.seqk fun K5 hK5 => ?_
          refine W.ite (by simp [hc1, hv, hn8, hnn, hI0, hc2, hI1]; first | rfl | exact (Bool.not_not _).symm) (fun hc3 => ?_) (fun hc3 => ?_)
          ·
            try simp at hc3
            refine W.skip ?_
            refine thenQ_n (hK5 _ ?_)
            clear hK5 K5
            refine W.seqk fun K6 hK6 => ?_
            refine W.block ?_
            refine W.regK hΓ [1, 5, 7, 8, 9, 20, 21, 22, 26, 27, 28] (by simp [hc1, hv, hn8, hnn, hI0, hc2, hI1, hc3]; rfl) ?_
            obtain ⟨n, qn⟩ : ∃ n, n = (k + 1) % (allRings (ptF ow lk) ow.length)[j].length := ⟨_, rfl⟩
            have hmod : Int.tmod ((k : Int) + 1) (((allRings (ptF ow lk) ow.length)[j].length : Nat) : Int) = (n : Int) := by rw [qn]; rfl
            have hm0 : ¬ (allRings (ptF ow lk) ow.length)[j].length = 0 := by omega
            have hml : n < (allRings (ptF ow lk) ow.length)[j].length := qn ▸ Nat.mod_lt _ (by omega)
            have hx1 : (allRings (ptF ow lk) ow.length)[j][k] < ow.length := qmm.1 _ (List.getElem_mem hc3)
            have hx2 : (allRings (ptF ow lk) ow.length)[j][n] < ow.length := qmm.1 _ (List.getElem_mem hml)
            have hgv := giveK_at (ow := ow) (out := giveR ow ((allRings (ptF ow lk) ow.length).take j) (List.replicate ow.length (0, 0))) hc3 qn hml hx2
            refine W.drawE hm 14 [] (deps := [[], [], [], [2], [], [], [5], [], [7], [7, 8, 5, 6], [6, 5, 8, 7, 9, 4], [4, 9, 7, 8, 5, 6, 10], [10, 6, 5, 8, 7, 9, 4, 11, 2, 3], [3, 2, 11, 4, 9, 7, 8, 5, 6, 10, 12], [13, 12, 11, 10, 9, 8, 7, 6, 5, 4, 3, 2, 1, 0], [0, 1, 2, 3, 4, 5, 6, 7, 8, 9, 10, 11, 12, 13, 14]]) (by rfl) (by rfl) ?_
            refine WDraw.n hΓ 14 0 rfl (by simp [hc1, hv, hn8, hnn, hI0, hc2, hI1, hc3, hmod, hm0, hml, hx1, hx2, hgv]; (try (simp (disch := omega) only [wrap_i64, mul_i64, capOk_of]; (try simp [hc1, hv, hn8, hnn, hI0, hc2, hI1, hc3, hmod, hm0, hml, hx1, hx2, hgv]))); exact ⟨rfl, rfl, rfl⟩) rfl ?_
            refine WDraw.done (by simp [hc1, hv, hn8, hnn, hI0, hc2, hI1, hc3, hmod, hm0, hml, hx1, hx2, hgv]; rfl) ?_
            refine WOps.n hΓ 2 (by simp [hc1, hv, hn8, hnn, hI0, hc2, hI1, hc3, hmod, hm0, hml, hx1, hx2, hgv]; first | rfl | exact ⟨rfl, rfl⟩) rfl ?_
            refine WOps.endK ?_
            refine blockQ_n ?_
            refine thenQ_n (hK6 _ ?_)
            clear hK6 K6
            refine W.regE hΓ (by simp [hc1, hv, hn8, hnn, hI0, hc2, hI1, hc3, hmod, hm0, hml, hx1, hx2, hgv]; (try (simp (disch := omega) only [wrap_i64, mul_i64, capOk_of]; (try simp [hc1, hv, hn8, hnn, hI0, hc2, hI1, hc3, hmod, hm0, hml, hx1, hx2, hgv]))); rfl) ?_
            refine ⟨k + 1, Le.fit (by simp [hc1, hv, hn8, hnn, hI0, hc2, hI1, hc3, hmod, hm0, hml, hx1, hx2, hgv]; rfl) (by rfl) (by rfl) (by rfl) ?_ ?_, ?_, ?_⟩
            ·
              try (simp [hc1, hv, hn8, hnn, hI0, hc2, hI1, hc3, hmod, hm0, hml, hx1, hx2, hgv])
              all_goals (
                -- 8 back.tmps
                first | done | omega | (simp_all; done) | (simp_all; omega)
              )
            ·
              try (simp [hc1, hv, hn8, hnn, hI0, hc2, hI1, hc3, hmod, hm0, hml, hx1, hx2, hgv])
              all_goals (
                -- 9 back.objs
                first | done | omega | (simp_all; done) | (simp_all; omega)
              )
            ·
              -- 10 back.inv
              first | done | omega | (simp_all; done) | (simp_all; omega)
            ·
              -- 11 back.meas
              first | done | omega | (simp_all; done) | (simp_all; omega)
          ·
            try simp at hc3
            refine W.exit ?_
            refine thenQ_e ?_
            clear hK5 K5
            refine thenQ_e ?_
            refine blockQ_s ?_
            refine blockQ_n ?_
            refine thenQ_n (hK4 _ ?_)
            clear hK4 K4
            refine W.regE hΓ (by simp [hc1, hv, hn8, hnn, hI0, hc2, hI1, hc3]; (try (simp (disch := omega) only [wrap_i64, mul_i64, capOk_of]; (try simp [hc1, hv, hn8, hnn, hI0, hc2, hI1, hc3]))); rfl) ?_
            refine ⟨j + 1, Le.fit (by simp [hc1, hv, hn8, hnn, hI0, hc2, hI1, hc3]; rfl) (by rfl) (by rfl) (by rfl) ?_ ?_, ?_, ?_⟩
            ·
              try (simp [hc1, hv, hn8, hnn, hI0, hc2, hI1, hc3])
              all_goals (
                -- 12 back.tmps
                first | done | omega | (simp_all; done) | (simp_all; omega)
              )
            ·
              try (simp [hc1, hv, hn8, hnn, hI0, hc2, hI1, hc3])
              all_goals (
                -- 13 back.objs
                obtain rfl : k = (allRings (ptF ow lk) ow.length)[j].length := by omega
                rw [List.take_succ_eq_append_getElem hc2, giveR_snoc]
              )
            ·
              -- 14 back.inv
              first | done | omega | (simp_all; done) | (simp_all; omega)
            ·
              -- 15 back.meas
              first | done | omega | (simp_all; done) | (simp_all; omega)
      ·
        try simp at hc2
        refine W.exit ?_
        refine thenQ_e ?_
        clear hK3 K3
        refine thenQ_e ?_
        refine blockQ_s ?_
        refine thenQ_n (hK2 _ ?_)
        clear hK2 K2
        refine W.regK hΓ [2, 3] (by simp [hc1, hv, hn8, hnn, hI0, hc2]; rfl) ?_
        refine W.ret ?_
        refine EndQ.r true [144] [] (by simp [hc1, hv, hn8, hnn, hI0, hc2]; first | rfl | exact ⟨rfl, rfl⟩) ?_
        -- 16 end
        rw [List.take_of_length_le hc2, List.take_of_length_le (by simp)]
        exact ⟨by rw [swapT, if_pos hc1, hc1], rfl⟩
theorem swapT_length (ow : List Turn) (lk : List (List Turn)) : (swapT ow lk).length = if checkT ow lk = 0 then ow.length else 0 := by
  rw [swapT]; split <;> simp
/-- what is wrong with held turns of a valid trade, from the i-th on; those before are done -/
def chkH (ow : List Turn) : List Turn → List Turn → Int
  | _, [] => 0
  | done, x :: r => if x ∉ ow then 3 else if x ∈ done then 4 else chkH ow (done ++ [x]) r
theorem chkH_at {ow held : List Turn} {i : Nat} (h : i < held.length) : chkH ow (held.take i) (held.drop i) = if held[i] ∉ ow then 3 else if held[i] ∈ held.take i then 4 else chkH ow (held.take (i + 1)) (held.drop (i + 1)) := by
  rw [List.drop_eq_getElem_cons h, chkH, ← List.take_succ_eq_append_getElem h]
def heldT (ow : List Turn) (lk : List (List Turn)) (held : List Turn) : Int := if checkT ow lk ≠ 0 then checkT ow lk else if held.length ≠ ow.length then 2 else chkH ow [] held
/-- whole numbers of 64 bits -/
def WfT (x : Turn) : Prop := (Lit.int .i64 x.1).wf = true ∧ (Lit.int .i64 x.2).wf = true
set_option maxHeartbeats 4000000 in
theorem CheckHeld_ok (ow : List Turn) (lk : List (List Turn)) (held : List Turn) (hwf : ValidT ow lk → ∀ x ∈ held, WfT x) : ACalls Try.prog 32 [trade ow lk, turns held] [] (fun r o => r = I (heldT ow lk held) ∧ o = []) := by
  refine ACalls.len (l := held.map T) (by simp) ⟨_, Try.func32, by kernel_rfl, by kernel_rfl⟩ fun hhl => ?_
  simp [maxLen_val] at hhl
  refine ACalls.enter hΓ Try.func32 rfl (by kernel_rfl) Try.ntmps32 (by rw [Try.results32]) (by simp) (by simp; rfl) ?_
  refine W.regK hΓ [1, 2] (by simp; rfl) ?_
  refine W.seqk fun K1 hK1 => ?_
  refine W.seqR ?_
  refine WOps.n hΓ 1 (by simp; first | rfl | exact ⟨rfl, rfl⟩) rfl ?_
  refine WOps.call rfl rfl rfl rfl [] rfl rfl (by decide) (by simp; first | rfl | exact ⟨rfl, rfl⟩) (by simp; rfl) ?_
  refine CallT.mk (Check_ok _ _) (by simp) ?_
  refine WOps.norm (by simp; rfl) ?_
  refine WOps.n hΓ 1 (by simp; first | rfl | exact ⟨rfl, rfl⟩) rfl ?_
  refine WOps.endK ?_
  refine W.keep [1, 2, 5] (by simp; rfl) ?_
  refine W.regK hΓ [1, 2, 5, 14] (by simp; rfl) ?_
  refine W.ite (by simp; first | rfl | exact (Bool.not_not _).symm) (fun hc1 => ?_) (fun hc1 => ?_)
  ·
    try simp at hc1
    refine W.regK hΓ [4] (by simp [hc1]; rfl) ?_
    refine W.ret ?_
    refine thenQ_r ?_
    clear hK1 K1
    refine EndQ.r false [] [] (by simp [hc1]; first | rfl | exact ⟨rfl, rfl⟩) ?_
    -- 1 end
    exact ⟨by rw [heldT, if_pos hc1], rfl⟩
  ·
    try simp at hc1
    have hv : ValidT ow lk := checkT_zero.1 (by simpa using hc1)
    have hn8 : ow.length ≤ 8 := hv.most
    replace hwf := hwf hv
    refine W.skip ?_
    refine thenQ_n (hK1 _ ?_)
    clear hK1 K1
    refine W.seqk fun K2 hK2 => ?_
    refine W.regK hΓ [1, 2, 21] (by simp [hc1, hv, hn8]; rfl) ?_
    refine W.ite (by simp [hc1, hv, hn8]; first | rfl | exact (Bool.not_not _).symm) (fun hc2 => ?_) (fun hc2 => ?_)
    ·
      try simp at hc2
      refine W.regK hΓ [4] (by simp [hc1, hv, hn8, hc2]; rfl) ?_
      refine W.ret ?_
      refine thenQ_r ?_
      clear hK2 K2
      refine EndQ.r false [] [] (by simp [hc1, hv, hn8, hc2]; first | rfl | exact ⟨rfl, rfl⟩) ?_
      -- 2 end
      exact ⟨by rw [heldT, if_neg (by omega), if_pos (by omega)], rfl⟩
    ·
      try simp at hc2
      refine W.skip ?_
      refine thenQ_n (hK2 _ ?_)
      clear hK2 K2
      refine W.seqR ?_
      refine WOps.n hΓ 1 (by simp [hc1, hv, hn8, hc2]; first | rfl | exact ⟨rfl, rfl⟩) rfl ?_
      refine WOps.call rfl rfl rfl rfl [] rfl rfl (by decide) (by simp [hc1, hv, hn8, hc2]; first | rfl | exact ⟨rfl, rfl⟩) (by simp [hc1, hv, hn8, hc2]; rfl) ?_
      refine CallT.mk (owners_ok ow lk hv.owns hv.most) (by simp [hc1, hv, hn8, hc2]) ?_
      refine WOps.norm (by simp [hc1, hv, hn8, hc2]; rfl) ?_
      refine WOps.n hΓ 1 (by simp [hc1, hv, hn8, hc2]; first | rfl | exact ⟨rfl, rfl⟩) rfl ?_
      refine WOps.endK ?_
      refine W.keep [1, 6] (by simp [hc1, hv, hn8, hc2]; rfl) ?_
      refine W.seqk fun K3 hK3 => ?_
      refine W.regK hΓ [1, 6, 24, 25, 26] (by simp [hc1, hv, hn8, hc2]; rfl) ?_
      refine W.block ?_
      refine W.loopU (α := Nat) [1, 6, 24, 25] [8, 43] [] (fun i => [(26, I i)]) (fun i => []) (fun i => i ≤ held.length ∧ heldT ow lk held = chkH ow (held.take i) (held.drop i)) (fun i => held.length - i) 0 rfl (by simp [hc1, hv, hn8, hc2]; rfl) (by simp [hc1, hv, hn8, hc2]; rfl) ?_ ?_ ?_
      ·
        refine Le.fit (by simp [hc1, hv, hn8, hc2]; rfl) (by rfl) (by rfl) (by rfl) ?_ ?_
        ·
          try (simp [hc1, hv, hn8, hc2])
          all_goals (
            -- 3 init.tmps
            first | done | omega | (simp_all; done) | (simp_all; omega)
          )
        ·
          try (simp [hc1, hv, hn8, hc2])
          all_goals (
            -- 4 init.objs
            first | done | omega | (simp_all; done) | (simp_all; omega)
          )
      ·
        -- 5 init.inv
        exact ⟨by omega, by rw [heldT, if_neg (by omega), if_neg (by omega)]; rfl⟩
      ·
        intro i hI0
        simp only [List.cons_append, List.nil_append]
        try dsimp only at hI0
        obtain ⟨hil, he⟩ := hI0
        refine W.regK hΓ [1, 6, 24, 25, 26, 27] (by simp [hc1, hv, hn8, hc2, hil]; rfl) ?_
        refine W.seqk fun K4 hK4 => ?_
        refine W.ite (by simp [hc1, hv, hn8, hc2, hil]; first | rfl | exact (Bool.not_not _).symm) (fun hc3 => ?_) (fun hc3 => ?_)
        ·
          try simp at hc3
          refine W.skip ?_
          refine thenQ_n (hK4 _ ?_)
          clear hK4 K4
          refine W.seqk fun K5 hK5 => ?_
          refine W.block ?_
          have hih : i < held.length := by omega
          have hw1 : (Lit.int .i64 held[i].1).wf = true := (hwf _ (List.getElem_mem hih)).1
          have hw2 : (Lit.int .i64 held[i].2).wf = true := (hwf _ (List.getElem_mem hih)).2
          have hgm : getM (.agg #[.int .i64 held[i].1, .int .i64 held[i].2]) (ownEk 0 ow) = if held[i] ∈ ow then some (I ((0 + ow.idxOf held[i] : Nat) : Int)) else none := getM_own held[i] ow 0
          refine W.regK hΓ [1, 6, 7, 8, 24, 25, 26] (by simp [hc1, hv, hn8, hc2, hil, hc3, hih, hw1, hw2, hgm]; rfl) ?_
          refine W.seqk fun K6 hK6 => ?_
          by_cases hmem : held[i] ∈ ow
          ·
            refine W.regK hΓ [1, 6, 7, 8, 10, 24, 25, 26] (by simp [hc1, hv, hn8, hc2, hil, hc3, hih, hw1, hw2, hgm, hmem]; rfl) ?_
            refine W.regK hΓ [1, 6, 7, 8, 24, 25, 26, 38] (by simp [hc1, hv, hn8, hc2, hil, hc3, hih, hw1, hw2, hgm, hmem]; rfl) ?_
            refine W.cond (t := false) (by simp [hc1, hv, hn8, hc2, hil, hc3, hih, hw1, hw2, hgm, hmem]) ?_
            simp only [if_true, Bool.false_eq_true, if_false]
            refine W.skip ?_
            refine thenQ_n (hK6 _ ?_)
            clear hK6 K6
            refine W.drawT hm 4 [] (deps := [[], [], [1, 0], [], [3, 0, 1, 2]]) (by rfl) (by rfl) ?_
            refine WDraw.n hΓ 4 0 rfl (by simp [hc1, hv, hn8, hc2, hil, hc3, hih, hw1, hw2, hgm, hmem]; exact ⟨rfl, rfl, rfl⟩) rfl ?_
            refine WDraw.done (by simp [hc1, hv, hn8, hc2, hil, hc3, hih, hw1, hw2, hgm, hmem]; rfl) ?_
            refine WOps.call rfl rfl rfl rfl [] rfl rfl (by decide) (by simp [hc1, hv, hn8, hc2, hil, hc3, hih, hw1, hw2, hgm, hmem]; first | rfl | exact ⟨rfl, rfl⟩) (by simp [hc1, hv, hn8, hc2, hil, hc3, hih, hw1, hw2, hgm, hmem]; rfl) ?_
            refine CallT.mk (Contains_ok (held.take i) _ _) (by simp [hc1, hv, hn8, hc2, hil, hc3, hih, hw1, hw2, hgm, hmem]) ?_
            refine WOps.norm (by simp [hc1, hv, hn8, hc2, hil, hc3, hih, hw1, hw2, hgm, hmem]; rfl) ?_
            refine WOps.endK ?_
            refine W.keep [1, 6, 24, 25, 26, 43] (by simp [hc1, hv, hn8, hc2, hil, hc3, hih, hw1, hw2, hgm, hmem]; rfl) ?_
            refine W.ite (by simp [hc1, hv, hn8, hc2, hil, hc3, hih, hw1, hw2, hgm, hmem]; first | rfl | exact (Bool.not_not _).symm) (fun hc5 => ?_) (fun hc5 => ?_)
            ·
              try simp at hc5
              refine W.regK hΓ [4] (by simp [hc1, hv, hn8, hc2, hil, hc3, hih, hw1, hw2, hgm, hmem, hc5]; rfl) ?_
              refine W.ret ?_
              refine blockQ_r ?_
              refine thenQ_r ?_
              clear hK5 K5
              refine thenQ_r ?_
              refine blockQ_r ?_
              refine thenQ_r ?_
              clear hK3 K3
              refine EndQ.r false [] [] (by simp [hc1, hv, hn8, hc2, hil, hc3, hih, hw1, hw2, hgm, hmem, hc5]; first | rfl | exact ⟨rfl, rfl⟩) ?_
              -- 6 end
              exact ⟨by rw [he, chkH_at hih, if_neg (fun h => h hmem), if_pos (by simp_all)], rfl⟩
            ·
              try simp at hc5
              refine W.skip ?_
              refine blockQ_n ?_
              refine thenQ_n (hK5 _ ?_)
              clear hK5 K5
              refine W.regE hΓ (by simp [hc1, hv, hn8, hc2, hil, hc3, hih, hw1, hw2, hgm, hmem, hc5]; (try (simp (disch := omega) only [wrap_i64, mul_i64, capOk_of]; (try simp [hc1, hv, hn8, hc2, hil, hc3, hih, hw1, hw2, hgm, hmem, hc5]))); rfl) ?_
              refine ⟨i + 1, Le.fit (by simp [hc1, hv, hn8, hc2, hil, hc3, hih, hw1, hw2, hgm, hmem, hc5]; rfl) (by rfl) (by rfl) (by rfl) ?_ ?_, ?_, ?_⟩
              ·
                try (simp [hc1, hv, hn8, hc2, hil, hc3, hih, hw1, hw2, hgm, hmem, hc5])
                all_goals (
                  -- 7 back.tmps
                  first | done | omega | (simp_all; done) | (simp_all; omega)
                )
              ·
                try (simp [hc1, hv, hn8, hc2, hil, hc3, hih, hw1, hw2, hgm, hmem, hc5])
                all_goals (
                  -- 8 back.objs
                  first | done | omega | (simp_all; done) | (simp_all; omega)
                )
              ·
                -- 9 back.inv
                exact ⟨by omega, by rw [he, chkH_at hih, if_neg (fun h => h hmem), if_neg (by simp_all)]⟩
              ·
                -- 10 back.meas
                first | done | omega | (simp_all; done) | (simp_all; omega)
          ·
            refine W.regK hΓ [1, 6, 7, 8, 10, 24, 25, 26] (by simp [hc1, hv, hn8, hc2, hil, hc3, hih, hw1, hw2, hgm, hmem]; rfl) ?_
            refine W.regK hΓ [1, 6, 7, 8, 24, 25, 26, 38] (by simp [hc1, hv, hn8, hc2, hil, hc3, hih, hw1, hw2, hgm, hmem]; rfl) ?_
            refine W.cond (t := true) (by simp [hc1, hv, hn8, hc2, hil, hc3, hih, hw1, hw2, hgm, hmem]) ?_
            simp only [if_true, Bool.false_eq_true, if_false]
            refine W.regK hΓ [4] (by simp [hc1, hv, hn8, hc2, hil, hc3, hih, hw1, hw2, hgm, hmem]; rfl) ?_
            refine W.ret ?_
            refine thenQ_r ?_
            clear hK6 K6
            refine blockQ_r ?_
            refine thenQ_r ?_
            clear hK5 K5
            refine thenQ_r ?_
            refine blockQ_r ?_
            refine thenQ_r ?_
            clear hK3 K3
            refine EndQ.r false [] [] (by simp [hc1, hv, hn8, hc2, hil, hc3, hih, hw1, hw2, hgm, hmem]; first | rfl | exact ⟨rfl, rfl⟩) ?_
            -- 11 end
            exact ⟨by rw [he, chkH_at hih, if_pos hmem], rfl⟩
        ·
          try simp at hc3
          refine W.exit ?_
          refine thenQ_e ?_
          clear hK4 K4
          refine thenQ_e ?_
          refine blockQ_s ?_
          refine thenQ_n (hK3 _ ?_)
          clear hK3 K3
          refine W.regK hΓ [4] (by simp [hc1, hv, hn8, hc2, hil, hc3]; rfl) ?_
          refine W.ret ?_
          refine EndQ.r false [] [] (by simp [hc1, hv, hn8, hc2, hil, hc3]; first | rfl | exact ⟨rfl, rfl⟩) ?_
          -- 12 end
          exact ⟨by rw [he, List.drop_of_length_le (by omega)]; rfl, rfl⟩
set_option maxHeartbeats 4000000 in
theorem CloneI_ok (x : Int) (xs : List Int) (hb : xs.length ≤ 100000) : ACalls Try.prog 64 [ints (x :: xs)] [] (fun r o => r = .own 20000 0 (xs.length + 1) ∧ o = [(20000, .row true 3 1 ((x :: xs).map I))]) := by
  refine ACalls.enter hΓ Try.func64 rfl (by kernel_rfl) Try.ntmps64 (by rw [Try.results64]) (by simp) (by simp; rfl) ?_
  refine W.regK hΓ [0] (by simp; rfl) ?_
  refine W.seqk fun K1 hK1 => ?_
  refine W.regK hΓ [0, 4] (by simp; rfl) ?_
  refine W.cond (t := false) (by simp) ?_
  simp only [if_true, Bool.false_eq_true, if_false]
  refine W.skip ?_
  refine thenQ_n (hK1 _ ?_)
  clear hK1 K1
  refine W.regK hΓ [2] (by simp; (try (simp (disch := omega) only [wrap_i64, mul_i64, capOk_of]; (try simp))); rfl) ?_
  refine W.ret ?_
  refine EndQ.r false [] [(20000, 40)] (by simp; first | rfl | exact ⟨rfl, rfl⟩) ?_
  -- 1 end
  first | done | omega | (simp_all; done) | (simp_all; omega)
end Go.Sim
