/- What blocks: a group's search. -/
import Derived.Test.YtggbbldoopfejaaVh
namespace Go.Sim
open Go.Proofs Go.Plain
set_option maxRecDepth 100000
set_option linter.unusedSimpArgs false
attribute [-simp] List.map_set List.map_take List.map_drop
attribute [local simp] take_map' drop_map'
/-- may a trader get the turn of another one; does it like it more -/
def canG (ow : List Turn) (lk : List (List Turn)) (held : List Turn) (i o : Nat) : Bool := !(decide (rk ow lk i (nth ow o) = 17)) && !(decide (rk ow lk i (nth held i) < rk ow lk i (nth ow o)))
def gainG (ow : List Turn) (lk : List (List Turn)) (held : List Turn) (i o : Nat) : Bool := decide (rk ow lk i (nth ow o) < rk ow lk i (nth held i))
theorem canG_eq {ow : List Turn} {lk : List (List Turn)} {held : List Turn} {i o : Nat} (_ : i < ow.length) (ho : o < ow.length) (hi : i < held.length) : canG ow lk held i o = (!(decide (rk ow lk i ow[o] = 17)) && !(decide (rk ow lk i held[i] < rk ow lk i ow[o]))) := by rw [canG, nth_get ho, nth_get hi]
theorem gainG_eq {ow : List Turn} {lk : List (List Turn)} {held : List Turn} {i o : Nat} (_ : i < ow.length) (ho : o < ow.length) (hi : i < held.length) : gainG ow lk held i o = decide (rk ow lk i ow[o] < rk ow lk i held[i]) := by rw [gainG, nth_get ho, nth_get hi]
theorem any_drop {α : Type} {p : α → Bool} {l : List α} {k : Nat} (h : k < l.length) : (l.drop k).any p = (p l[k] || (l.drop (k + 1)).any p) := by rw [List.drop_eq_getElem_cons h, List.any_cons]
theorem set_back {l : List Bool} {i : Nat} (h : i < l.length) (h0 : l[i] = false) : (l.set i true).set i false = l := by rw [List.set_set, ← h0, List.set_getElem_self]
/-- the program's search for who gives to whom -/
def giveB (can gain : Nat → Nat → Bool) (g : List Nat) : Nat → List Bool → Nat → Bool → Bool
  | 0, _, _, _ => false
  | f + 1, tk, next, more => if next = g.length then more else g.any fun o => !nth tk o && can (nth g next) o && giveB can gain g f (tk.set o true) (next + 1) (more || gain (nth g next) o)
set_option maxHeartbeats 4000000 in
theorem give_step (ow : List Turn) (lk : List (List Turn)) (held : List Turn) (hv : ValidT ow lk) (hh : held.length = ow.length) (g : List Nat) (hg : ∀ y ∈ g, y < ow.length) (hg8 : g.length ≤ 8) (f next : Nat) (tk : List Bool) (more : Bool) (htk : tk.length = ow.length) (hnx : next ≤ g.length) (ih : ∀ (tk : List Bool) (more : Bool), tk.length = ow.length → next + 1 ≤ g.length → ACalls Try.prog 81 [I ((next : Int) + 1), B more, .ptr 10000 0 0, .ptr 10001 0 0, .ptr 10002 0 0, .ptr 10003 0 0, .ptr 10004 0 0] [(10000, .row false 26 1 [rgV g]), (10001, .row false 25 2 [trade ow lk]), (10002, .row false 22 1 [turns held]), (10003, .row false 62 1 [.own 10005 0 tk.length]), (10004, .row false 96 1 [.clo 81 [.ptr 10000 0 0, .ptr 10001 0 0, .ptr 10002 0 0, .ptr 10003 0 0, .ptr 10004 0 0]]), (10005, .row true 4 1 (tk.map B))] (fun r o => ∃ tk' : List Bool, r = B (giveB (canG ow lk held) (gainG ow lk held) g f tk (next + 1) more) ∧ o = [(10000, .row false 26 1 [rgV g]), (10001, .row false 25 2 [trade ow lk]), (10002, .row false 22 1 [turns held]), (10003, .row false 62 1 [.own 10005 0 tk.length]), (10004, .row false 96 1 [.clo 81 [.ptr 10000 0 0, .ptr 10001 0 0, .ptr 10002 0 0, .ptr 10003 0 0, .ptr 10004 0 0]]), (10005, .row true 4 1 (tk'.map B))] ∧ tk'.length = tk.length ∧ (giveB (canG ow lk held) (gainG ow lk held) g f tk (next + 1) more = false → tk' = tk))) : ACalls Try.prog 81 [I next, B more, .ptr 10000 0 0, .ptr 10001 0 0, .ptr 10002 0 0, .ptr 10003 0 0, .ptr 10004 0 0] [(10000, .row false 26 1 [rgV g]), (10001, .row false 25 2 [trade ow lk]), (10002, .row false 22 1 [turns held]), (10003, .row false 62 1 [.own 10005 0 tk.length]), (10004, .row false 96 1 [.clo 81 [.ptr 10000 0 0, .ptr 10001 0 0, .ptr 10002 0 0, .ptr 10003 0 0, .ptr 10004 0 0]]), (10005, .row true 4 1 (tk.map B))] (fun r o => ∃ tk' : List Bool, r = B (giveB (canG ow lk held) (gainG ow lk held) g (f + 1) tk next more) ∧ o = [(10000, .row false 26 1 [rgV g]), (10001, .row false 25 2 [trade ow lk]), (10002, .row false 22 1 [turns held]), (10003, .row false 62 1 [.own 10005 0 tk.length]), (10004, .row false 96 1 [.clo 81 [.ptr 10000 0 0, .ptr 10001 0 0, .ptr 10002 0 0, .ptr 10003 0 0, .ptr 10004 0 0]]), (10005, .row true 4 1 (tk'.map B))] ∧ tk'.length = tk.length ∧ (giveB (canG ow lk held) (gainG ow lk held) g (f + 1) tk next more = false → tk' = tk)) := by
  refine ACalls.enter hΓ Try.func81 rfl (by kernel_rfl) Try.ntmps81 (by rw [Try.results81]) (by simp) (by simp [hnx]; rfl) ?_
  have hn8 : ow.length ≤ 8 := hv.most
  have qs : lk.length = ow.length := hv.same
  refine W.regK hΓ [0, 1, 2, 3, 4, 5, 6, 50, 51, 54, 55, 56, 66, 67, 68] (by simp [hnx, hn8]; rfl) ?_
  refine W.seqk fun K1 hK1 => ?_
  refine W.regK hΓ [0, 1, 2, 3, 4, 5, 6, 18, 50, 51, 54, 55, 56, 66, 67, 68] (by simp [hnx, hn8]; rfl) ?_
  refine W.ite (by simp [hnx, hn8]; first | rfl | exact (Bool.not_not _).symm) (fun hc1 => ?_) (fun hc1 => ?_)
  ·
    try simp at hc1
    refine W.regK hΓ [9] (by simp [hnx, hn8, hc1]; rfl) ?_
    refine W.ret ?_
    refine thenQ_r ?_
    clear hK1 K1
    refine EndQ.r false [] [(10000, 10000), (10001, 10001), (10002, 10002), (10003, 10003), (10004, 10004), (10005, 10005)] (by simp [hnx, hn8, hc1]; first | rfl | exact ⟨rfl, rfl⟩) ?_
    -- 1 end
    exact ⟨tk, by rw [giveB, if_pos (by omega)], rfl, rfl, fun _ => rfl⟩
  ·
    try simp at hc1
    have hnl : next < g.length := by omega
    have hi : g[next] < ow.length := hg _ (List.getElem_mem hnl)
    have hih : g[next] < held.length := by omega
    refine W.skip ?_
    refine thenQ_n (hK1 _ ?_)
    clear hK1 K1
    refine W.regK hΓ [0, 1, 2, 3, 4, 5, 6, 10, 50, 51, 54, 55, 56, 66, 67, 68] (by simp [hnx, hn8, hc1, hnl, hi, hih]; rfl) ?_
    refine W.drawT hm 6 [] (deps := [[], [], [], [], [3, 2], [2, 3, 4], [4, 3, 2, 5, 1, 0], [0, 1, 5, 2, 3, 4, 6]]) (by rfl) (by rfl) ?_
    refine WDraw.n hΓ 6 0 rfl (by simp [hnx, hn8, hc1, hnl, hi, hih]; exact ⟨rfl, rfl, rfl⟩) rfl ?_
    refine WDraw.done (by simp [hnx, hn8, hc1, hnl, hi, hih]; rfl) ?_
    refine WOps.call rfl rfl rfl rfl [] rfl rfl (by decide) (by simp [hnx, hn8, hc1, hnl, hi, hih]; first | rfl | exact ⟨rfl, rfl⟩) (by simp [hnx, hn8, hc1, hnl, hi, hih]; rfl) ?_
    refine CallT.mk (rank_ok' ow lk g[next] held[g[next]] (by omega) (by omega)) (by simp [hnx, hn8, hc1, hnl, hi, hih]) ?_
    refine WOps.norm (by simp [hnx, hn8, hc1, hnl, hi, hih]; rfl) ?_
    refine WOps.n hΓ 1 (by simp [hnx, hn8, hc1, hnl, hi, hih]; first | rfl | exact ⟨rfl, rfl⟩) rfl ?_
    refine WOps.endK ?_
    refine W.keep [0, 1, 2, 3, 5, 6, 10, 11, 50, 51, 54, 55, 56, 66, 67, 68] (by simp [hnx, hn8, hc1, hnl, hi, hih]; rfl) ?_
    refine W.seqk fun K2 hK2 => ?_
    refine W.regK hΓ [0, 1, 3, 5, 6, 10, 11, 31, 32, 33, 50, 51, 54, 55, 56, 66, 67, 68] (by simp [hnx, hn8, hc1, hnl, hi, hih]; rfl) ?_
    refine W.block ?_
    refine W.loopU (α := Nat) [0, 1, 3, 5, 6, 10, 11, 31, 32] [44, 70] [] (fun k => [(33, I k)]) (fun k => []) (fun k => k ≤ g.length ∧ giveB (canG ow lk held) (gainG ow lk held) g (f + 1) tk next more = (g.drop k).any fun o => !nth tk o && canG ow lk held g[next] o && giveB (canG ow lk held) (gainG ow lk held) g f (tk.set o true) (next + 1) (more || gainG ow lk held g[next] o)) (fun k => g.length - k) 0 rfl (by simp [hnx, hn8, hc1, hnl, hi, hih]; rfl) (by simp [hnx, hn8, hc1, hnl, hi, hih]; rfl) ?_ ?_ ?_
    ·
      refine Le.fit (by simp [hnx, hn8, hc1, hnl, hi, hih]; rfl) (by rfl) (by rfl) (by rfl) ?_ ?_
      ·
        try (simp [hnx, hn8, hc1, hnl, hi, hih])
        all_goals (
          -- 2 init.tmps
          first | done | omega | (simp_all; done) | (simp_all; omega)
        )
      ·
        try (simp [hnx, hn8, hc1, hnl, hi, hih])
        all_goals (
          -- 3 init.objs
          first | done | omega | (simp_all; done) | (simp_all; omega)
        )
    ·
      -- 4 init.inv
      exact ⟨by omega, by rw [giveB, if_neg (by omega), nth_get hnl]; rfl⟩
    ·
      intro k hI0
      simp only [List.cons_append, List.nil_append]
      try dsimp only at hI0
      obtain ⟨hkl, he⟩ := hI0
      refine W.regK hΓ [0, 1, 3, 5, 6, 10, 11, 31, 32, 33, 34, 50, 51, 54, 55, 56, 66, 67, 68] (by simp [hnx, hn8, hc1, hnl, hi, hih, hkl]; rfl) ?_
      refine W.seqk fun K3 hK3 => ?_
      refine W.ite (by simp [hnx, hn8, hc1, hnl, hi, hih, hkl]; first | rfl | exact (Bool.not_not _).symm) (fun hc2 => ?_) (fun hc2 => ?_)
      ·
        try simp at hc2
        refine W.skip ?_
        refine thenQ_n (hK3 _ ?_)
        clear hK3 K3
        refine W.seqk fun K4 hK4 => ?_
        refine W.block ?_
        have hk : k < g.length := by omega
        have ho : g[k] < ow.length := hg _ (List.getElem_mem hk)
        have hot : g[k] < tk.length := by omega
        have qhe := he
        rw [any_drop hk, show nth tk g[k] = tk[g[k]] from nth_get hot, canG_eq hi ho hih, gainG_eq hi ho hih] at qhe
        refine W.regK hΓ [0, 1, 3, 5, 6, 10, 11, 13, 31, 32, 33, 50, 51, 54, 55, 56, 66, 67, 68] (by simp [hnx, hn8, hc1, hnl, hi, hih, hkl, hc2, hk, ho, hot]; rfl) ?_
        refine W.drawT hm 7 [] (deps := [[], [], [], [2], [], [4, 2, 3], [3, 2, 4, 5], [5, 4, 2, 3, 6, 1, 0], [0, 1, 6, 3, 2, 4, 5, 7]]) (by rfl) (by rfl) ?_
        refine WDraw.n hΓ 7 0 rfl (by simp [hnx, hn8, hc1, hnl, hi, hih, hkl, hc2, hk, ho, hot]; exact ⟨rfl, rfl, rfl⟩) rfl ?_
        refine WDraw.done (by simp [hnx, hn8, hc1, hnl, hi, hih, hkl, hc2, hk, ho, hot]; rfl) ?_
        refine WOps.call rfl rfl rfl rfl [] rfl rfl (by decide) (by simp [hnx, hn8, hc1, hnl, hi, hih, hkl, hc2, hk, ho, hot]; first | rfl | exact ⟨rfl, rfl⟩) (by simp [hnx, hn8, hc1, hnl, hi, hih, hkl, hc2, hk, ho, hot]; rfl) ?_
        refine CallT.mk (rank_ok' ow lk g[next] ow[g[k]] (by omega) (by omega)) (by simp [hnx, hn8, hc1, hnl, hi, hih, hkl, hc2, hk, ho, hot]) ?_
        refine WOps.norm (by simp [hnx, hn8, hc1, hnl, hi, hih, hkl, hc2, hk, ho, hot]; rfl) ?_
        refine WOps.n hΓ 1 (by simp [hnx, hn8, hc1, hnl, hi, hih, hkl, hc2, hk, ho, hot]; first | rfl | exact ⟨rfl, rfl⟩) rfl ?_
        refine WOps.endK ?_
        refine W.keep [0, 1, 3, 5, 6, 10, 11, 13, 14, 31, 32, 33, 50, 51, 54, 55, 56, 66, 67, 68] (by simp [hnx, hn8, hc1, hnl, hi, hih, hkl, hc2, hk, ho, hot]; rfl) ?_
        refine W.seqk fun K5 hK5 => ?_
        by_cases htn : tk[g[k]] = true
        ·
          refine W.seqR ?_
          refine WOps.n hΓ 5 (by simp [hnx, hn8, hc1, hnl, hi, hih, hkl, hc2, hk, ho, hot, htn]; first | rfl | exact ⟨rfl, rfl⟩) rfl ?_
          refine WOps.gd rfl rfl (by simp [hnx, hn8, hc1, hnl, hi, hih, hkl, hc2, hk, ho, hot, htn]; first | rfl | exact (Bool.not_not _).symm) ?_
          (with_reducible refine WG.isF ?_); refine WGf.mk rfl (by simp [hnx, hn8, hc1, hnl, hi, hih, hkl, hc2, hk, ho, hot, htn]; rfl) ?_
          refine WOps.gd rfl rfl (by simp [hnx, hn8, hc1, hnl, hi, hih, hkl, hc2, hk, ho, hot, htn]; first | rfl | exact (Bool.not_not _).symm) ?_
          (with_reducible refine WG.isF ?_); refine WGf.mk rfl (by simp [hnx, hn8, hc1, hnl, hi, hih, hkl, hc2, hk, ho, hot, htn]; rfl) ?_
          refine WOps.n hΓ 2 (by simp [hnx, hn8, hc1, hnl, hi, hih, hkl, hc2, hk, ho, hot, htn]; first | rfl | exact ⟨rfl, rfl⟩) rfl ?_
          refine WOps.gd rfl rfl (by simp [hnx, hn8, hc1, hnl, hi, hih, hkl, hc2, hk, ho, hot, htn]; first | rfl | exact (Bool.not_not _).symm) ?_
          (with_reducible refine WG.isF ?_); refine WGf.mk rfl (by simp [hnx, hn8, hc1, hnl, hi, hih, hkl, hc2, hk, ho, hot, htn]; rfl) ?_
          refine WOps.gd rfl rfl (by simp [hnx, hn8, hc1, hnl, hi, hih, hkl, hc2, hk, ho, hot, htn]; first | rfl | exact (Bool.not_not _).symm) ?_
          (with_reducible refine WG.isF ?_); refine WGf.mk rfl (by simp [hnx, hn8, hc1, hnl, hi, hih, hkl, hc2, hk, ho, hot, htn]; rfl) ?_
          refine WOps.gd rfl rfl (by simp [hnx, hn8, hc1, hnl, hi, hih, hkl, hc2, hk, ho, hot, htn]; first | rfl | exact (Bool.not_not _).symm) ?_
          (with_reducible refine WG.isF ?_); refine WGf.mk rfl (by simp [hnx, hn8, hc1, hnl, hi, hih, hkl, hc2, hk, ho, hot, htn]; rfl) ?_
          refine WOps.n hΓ 1 (by simp [hnx, hn8, hc1, hnl, hi, hih, hkl, hc2, hk, ho, hot, htn]; first | rfl | exact ⟨rfl, rfl⟩) rfl ?_
          refine WOps.endK ?_
          refine W.keep [0, 1, 3, 5, 6, 10, 11, 13, 14, 31, 32, 33, 50, 51, 54, 55, 56, 57, 66, 67, 68] (by simp [hnx, hn8, hc1, hnl, hi, hih, hkl, hc2, hk, ho, hot, htn]; rfl) ?_
          refine W.cond (t := true) (by simp [hnx, hn8, hc1, hnl, hi, hih, hkl, hc2, hk, ho, hot, htn]) ?_
          simp only [if_true, Bool.false_eq_true, if_false]
          refine W.exit ?_
          refine thenQ_e ?_
          clear hK5 K5
          refine blockQ_s ?_
          refine thenQ_n (hK4 _ ?_)
          clear hK4 K4
          refine W.regE hΓ (by simp [hnx, hn8, hc1, hnl, hi, hih, hkl, hc2, hk, ho, hot, htn]; (try (simp (disch := omega) only [wrap_i64, mul_i64, capOk_of]; (try simp [hnx, hn8, hc1, hnl, hi, hih, hkl, hc2, hk, ho, hot, htn]))); rfl) ?_
          refine ⟨k + 1, Le.fit (by simp [hnx, hn8, hc1, hnl, hi, hih, hkl, hc2, hk, ho, hot, htn]; rfl) (by rfl) (by rfl) (by rfl) ?_ ?_, ?_, ?_⟩
          ·
            try (simp [hnx, hn8, hc1, hnl, hi, hih, hkl, hc2, hk, ho, hot, htn])
            all_goals (
              -- 5 back.tmps
              first | done | omega | (simp_all; done) | (simp_all; omega)
            )
          ·
            try (simp [hnx, hn8, hc1, hnl, hi, hih, hkl, hc2, hk, ho, hot, htn])
            all_goals (
              -- 6 back.objs
              first | done | omega | (simp_all; done) | (simp_all; omega)
            )
          ·
            -- 7 back.inv
            exact ⟨by omega, by rw [qhe]; simp [htn]⟩
          ·
            -- 8 back.meas
            first | done | omega | (simp_all; done) | (simp_all; omega)
        ·
          by_cases hn17 : rk ow lk g[next] ow[g[k]] = 17
          ·
            refine W.seqR ?_
            refine WOps.n hΓ 5 (by simp [hnx, hn8, hc1, hnl, hi, hih, hkl, hc2, hk, ho, hot, htn, hn17]; first | rfl | exact ⟨rfl, rfl⟩) rfl ?_
            refine WOps.gd rfl rfl (by simp [hnx, hn8, hc1, hnl, hi, hih, hkl, hc2, hk, ho, hot, htn, hn17]; first | rfl | exact (Bool.not_not _).symm) ?_
            (with_reducible refine WG.isT ?_); refine WGt.mk hΓ rfl (by simp [hnx, hn8, hc1, hnl, hi, hih, hkl, hc2, hk, ho, hot, htn, hn17]; first | rfl | exact ⟨rfl, rfl⟩) (by simp [hnx, hn8, hc1, hnl, hi, hih, hkl, hc2, hk, ho, hot, htn, hn17]; rfl) ?_
            refine WOps.gd rfl rfl (by simp [hnx, hn8, hc1, hnl, hi, hih, hkl, hc2, hk, ho, hot, htn, hn17]; first | rfl | exact (Bool.not_not _).symm) ?_
            (with_reducible refine WG.isT ?_); refine WGt.mk hΓ rfl (by simp [hnx, hn8, hc1, hnl, hi, hih, hkl, hc2, hk, ho, hot, htn, hn17]; first | rfl | exact ⟨rfl, rfl⟩) (by simp [hnx, hn8, hc1, hnl, hi, hih, hkl, hc2, hk, ho, hot, htn, hn17]; rfl) ?_
            refine WOps.n hΓ 2 (by simp [hnx, hn8, hc1, hnl, hi, hih, hkl, hc2, hk, ho, hot, htn, hn17]; first | rfl | exact ⟨rfl, rfl⟩) rfl ?_
            refine WOps.gd rfl rfl (by simp [hnx, hn8, hc1, hnl, hi, hih, hkl, hc2, hk, ho, hot, htn, hn17]; first | rfl | exact (Bool.not_not _).symm) ?_
            (with_reducible refine WG.isF ?_); refine WGf.mk rfl (by simp [hnx, hn8, hc1, hnl, hi, hih, hkl, hc2, hk, ho, hot, htn, hn17]; rfl) ?_
            refine WOps.gd rfl rfl (by simp [hnx, hn8, hc1, hnl, hi, hih, hkl, hc2, hk, ho, hot, htn, hn17]; first | rfl | exact (Bool.not_not _).symm) ?_
            (with_reducible refine WG.isF ?_); refine WGf.mk rfl (by simp [hnx, hn8, hc1, hnl, hi, hih, hkl, hc2, hk, ho, hot, htn, hn17]; rfl) ?_
            refine WOps.gd rfl rfl (by simp [hnx, hn8, hc1, hnl, hi, hih, hkl, hc2, hk, ho, hot, htn, hn17]; first | rfl | exact (Bool.not_not _).symm) ?_
            (with_reducible refine WG.isF ?_); refine WGf.mk rfl (by simp [hnx, hn8, hc1, hnl, hi, hih, hkl, hc2, hk, ho, hot, htn, hn17]; rfl) ?_
            refine WOps.n hΓ 1 (by simp [hnx, hn8, hc1, hnl, hi, hih, hkl, hc2, hk, ho, hot, htn, hn17]; first | rfl | exact ⟨rfl, rfl⟩) rfl ?_
            refine WOps.endK ?_
            refine W.keep [0, 1, 3, 5, 6, 10, 11, 13, 14, 31, 32, 33, 50, 51, 54, 55, 56, 57, 66, 67, 68] (by simp [hnx, hn8, hc1, hnl, hi, hih, hkl, hc2, hk, ho, hot, htn, hn17]; rfl) ?_
            refine W.cond (t := true) (by simp [hnx, hn8, hc1, hnl, hi, hih, hkl, hc2, hk, ho, hot, htn, hn17]) ?_
            simp only [if_true, Bool.false_eq_true, if_false]
            refine W.exit ?_
            refine thenQ_e ?_
            clear hK5 K5
            refine blockQ_s ?_
            refine thenQ_n (hK4 _ ?_)
            clear hK4 K4
            refine W.regE hΓ (by simp [hnx, hn8, hc1, hnl, hi, hih, hkl, hc2, hk, ho, hot, htn, hn17]; (try (simp (disch := omega) only [wrap_i64, mul_i64, capOk_of]; (try simp [hnx, hn8, hc1, hnl, hi, hih, hkl, hc2, hk, ho, hot, htn, hn17]))); rfl) ?_
            refine ⟨k + 1, Le.fit (by simp [hnx, hn8, hc1, hnl, hi, hih, hkl, hc2, hk, ho, hot, htn, hn17]; rfl) (by rfl) (by rfl) (by rfl) ?_ ?_, ?_, ?_⟩
            ·
              try (simp [hnx, hn8, hc1, hnl, hi, hih, hkl, hc2, hk, ho, hot, htn, hn17])
              all_goals (
                -- 9 back.tmps
                first | done | omega | (simp_all; done) | (simp_all; omega)
              )
            ·
              try (simp [hnx, hn8, hc1, hnl, hi, hih, hkl, hc2, hk, ho, hot, htn, hn17])
              all_goals (
                -- 10 back.objs
                first | done | omega | (simp_all; done) | (simp_all; omega)
              )
            ·
              -- 11 back.inv
              exact ⟨by omega, by rw [qhe]; simp [hn17]⟩
            ·
              -- 12 back.meas
              first | done | omega | (simp_all; done) | (simp_all; omega)
          ·
            by_cases hgt : rk ow lk g[next] held[g[next]] < rk ow lk g[next] ow[g[k]]
            ·
              refine W.seqR ?_
              refine WOps.n hΓ 5 (by simp [hnx, hn8, hc1, hnl, hi, hih, hkl, hc2, hk, ho, hot, htn, hn17, hgt]; first | rfl | exact ⟨rfl, rfl⟩) rfl ?_
              refine WOps.gd rfl rfl (by simp [hnx, hn8, hc1, hnl, hi, hih, hkl, hc2, hk, ho, hot, htn, hn17, hgt]; first | rfl | exact (Bool.not_not _).symm) ?_
              (with_reducible refine WG.isT ?_); refine WGt.mk hΓ rfl (by simp [hnx, hn8, hc1, hnl, hi, hih, hkl, hc2, hk, ho, hot, htn, hn17, hgt]; first | rfl | exact ⟨rfl, rfl⟩) (by simp [hnx, hn8, hc1, hnl, hi, hih, hkl, hc2, hk, ho, hot, htn, hn17, hgt]; rfl) ?_
              refine WOps.gd rfl rfl (by simp [hnx, hn8, hc1, hnl, hi, hih, hkl, hc2, hk, ho, hot, htn, hn17, hgt]; first | rfl | exact (Bool.not_not _).symm) ?_
              (with_reducible refine WG.isT ?_); refine WGt.mk hΓ rfl (by simp [hnx, hn8, hc1, hnl, hi, hih, hkl, hc2, hk, ho, hot, htn, hn17, hgt]; first | rfl | exact ⟨rfl, rfl⟩) (by simp [hnx, hn8, hc1, hnl, hi, hih, hkl, hc2, hk, ho, hot, htn, hn17, hgt]; rfl) ?_
              refine WOps.n hΓ 2 (by simp [hnx, hn8, hc1, hnl, hi, hih, hkl, hc2, hk, ho, hot, htn, hn17, hgt]; first | rfl | exact ⟨rfl, rfl⟩) rfl ?_
              refine WOps.gd rfl rfl (by simp [hnx, hn8, hc1, hnl, hi, hih, hkl, hc2, hk, ho, hot, htn, hn17, hgt]; first | rfl | exact (Bool.not_not _).symm) ?_
              (with_reducible refine WG.isX ?_); refine WGx.mk hΓ rfl rfl (by intro hg; (try simp at hg); simp [hnx, hn8, hc1, hnl, hi, hih, hkl, hc2, hk, ho, hot, htn, hn17, hgt, hg, nth_eq, -getElem?_pos]; rfl) (by simp [hnx, hn8, hc1, hnl, hi, hih, hkl, hc2, hk, ho, hot, htn, hn17, hgt]; rfl) ?_
              refine WOps.gd rfl rfl (by simp [hnx, hn8, hc1, hnl, hi, hih, hkl, hc2, hk, ho, hot, htn, hn17, hgt]; first | rfl | exact (Bool.not_not _).symm) ?_
              (with_reducible refine WG.isX ?_); refine WGx.mk hΓ rfl rfl (by intro hg; (try simp at hg); simp [hnx, hn8, hc1, hnl, hi, hih, hkl, hc2, hk, ho, hot, htn, hn17, hgt, hg, nth_eq, -getElem?_pos]; rfl) (by simp [hnx, hn8, hc1, hnl, hi, hih, hkl, hc2, hk, ho, hot, htn, hn17, hgt]; rfl) ?_
              refine WOps.gd rfl rfl (by simp [hnx, hn8, hc1, hnl, hi, hih, hkl, hc2, hk, ho, hot, htn, hn17, hgt]; first | rfl | exact (Bool.not_not _).symm) ?_
              (with_reducible refine WG.isX ?_); refine WGx.mk hΓ rfl rfl (by intro hg; (try simp at hg); simp [hnx, hn8, hc1, hnl, hi, hih, hkl, hc2, hk, ho, hot, htn, hn17, hgt, hg, nth_eq, -getElem?_pos]; rfl) (by simp [hnx, hn8, hc1, hnl, hi, hih, hkl, hc2, hk, ho, hot, htn, hn17, hgt]; rfl) ?_
              refine WOps.n hΓ 1 (by simp [hnx, hn8, hc1, hnl, hi, hih, hkl, hc2, hk, ho, hot, htn, hn17, hgt]; first | rfl | exact ⟨rfl, rfl⟩) rfl ?_
              refine WOps.endK ?_
              refine W.keep [0, 1, 3, 5, 6, 10, 11, 13, 14, 31, 32, 33, 50, 51, 54, 55, 56, 57, 66, 67, 68] (by simp [hnx, hn8, hc1, hnl, hi, hih, hkl, hc2, hk, ho, hot, htn, hn17, hgt]; rfl) ?_
              refine W.cond (t := true) (by simp [hnx, hn8, hc1, hnl, hi, hih, hkl, hc2, hk, ho, hot, htn, hn17, hgt]) ?_
              simp only [if_true, Bool.false_eq_true, if_false]
              refine W.exit ?_
              refine thenQ_e ?_
              clear hK5 K5
              refine blockQ_s ?_
              refine thenQ_n (hK4 _ ?_)
              clear hK4 K4
              refine W.regE hΓ (by simp [hnx, hn8, hc1, hnl, hi, hih, hkl, hc2, hk, ho, hot, htn, hn17, hgt]; (try (simp (disch := omega) only [wrap_i64, mul_i64, capOk_of]; (try simp [hnx, hn8, hc1, hnl, hi, hih, hkl, hc2, hk, ho, hot, htn, hn17, hgt]))); rfl) ?_
              refine ⟨k + 1, Le.fit (by simp [hnx, hn8, hc1, hnl, hi, hih, hkl, hc2, hk, ho, hot, htn, hn17, hgt]; rfl) (by rfl) (by rfl) (by rfl) ?_ ?_, ?_, ?_⟩
              ·
                try (simp [hnx, hn8, hc1, hnl, hi, hih, hkl, hc2, hk, ho, hot, htn, hn17, hgt])
                all_goals (
                  -- 13 back.tmps
                  first | done | omega | (simp_all; done) | (simp_all; omega)
                )
              ·
                try (simp [hnx, hn8, hc1, hnl, hi, hih, hkl, hc2, hk, ho, hot, htn, hn17, hgt])
                all_goals (
                  -- 14 back.objs
                  first | done | omega | (simp_all; done) | (simp_all; omega)
                )
              ·
                -- 15 back.inv
                exact ⟨by omega, by rw [qhe]; simp [hgt]⟩
              ·
                -- 16 back.meas
                first | done | omega | (simp_all; done) | (simp_all; omega)
            ·
              refine W.seqR ?_
              refine WOps.n hΓ 5 (by simp [hnx, hn8, hc1, hnl, hi, hih, hkl, hc2, hk, ho, hot, htn, hn17, hgt]; first | rfl | exact ⟨rfl, rfl⟩) rfl ?_
              refine WOps.gd rfl rfl (by simp [hnx, hn8, hc1, hnl, hi, hih, hkl, hc2, hk, ho, hot, htn, hn17, hgt]; first | rfl | exact (Bool.not_not _).symm) ?_
              (with_reducible refine WG.isT ?_); refine WGt.mk hΓ rfl (by simp [hnx, hn8, hc1, hnl, hi, hih, hkl, hc2, hk, ho, hot, htn, hn17, hgt]; first | rfl | exact ⟨rfl, rfl⟩) (by simp [hnx, hn8, hc1, hnl, hi, hih, hkl, hc2, hk, ho, hot, htn, hn17, hgt]; rfl) ?_
              refine WOps.gd rfl rfl (by simp [hnx, hn8, hc1, hnl, hi, hih, hkl, hc2, hk, ho, hot, htn, hn17, hgt]; first | rfl | exact (Bool.not_not _).symm) ?_
              (with_reducible refine WG.isT ?_); refine WGt.mk hΓ rfl (by simp [hnx, hn8, hc1, hnl, hi, hih, hkl, hc2, hk, ho, hot, htn, hn17, hgt]; first | rfl | exact ⟨rfl, rfl⟩) (by simp [hnx, hn8, hc1, hnl, hi, hih, hkl, hc2, hk, ho, hot, htn, hn17, hgt]; rfl) ?_
              refine WOps.n hΓ 2 (by simp [hnx, hn8, hc1, hnl, hi, hih, hkl, hc2, hk, ho, hot, htn, hn17, hgt]; first | rfl | exact ⟨rfl, rfl⟩) rfl ?_
              refine WOps.gd rfl rfl (by simp [hnx, hn8, hc1, hnl, hi, hih, hkl, hc2, hk, ho, hot, htn, hn17, hgt]; first | rfl | exact (Bool.not_not _).symm) ?_
              (with_reducible refine WG.isX ?_); refine WGx.mk hΓ rfl rfl (by intro hg; (try simp at hg); simp [hnx, hn8, hc1, hnl, hi, hih, hkl, hc2, hk, ho, hot, htn, hn17, hgt, hg, nth_eq, -getElem?_pos]; rfl) (by simp [hnx, hn8, hc1, hnl, hi, hih, hkl, hc2, hk, ho, hot, htn, hn17, hgt]; rfl) ?_
              refine WOps.gd rfl rfl (by simp [hnx, hn8, hc1, hnl, hi, hih, hkl, hc2, hk, ho, hot, htn, hn17, hgt]; first | rfl | exact (Bool.not_not _).symm) ?_
              (with_reducible refine WG.isX ?_); refine WGx.mk hΓ rfl rfl (by intro hg; (try simp at hg); simp [hnx, hn8, hc1, hnl, hi, hih, hkl, hc2, hk, ho, hot, htn, hn17, hgt, hg, nth_eq, -getElem?_pos]; rfl) (by simp [hnx, hn8, hc1, hnl, hi, hih, hkl, hc2, hk, ho, hot, htn, hn17, hgt]; rfl) ?_
              refine WOps.gd rfl rfl (by simp [hnx, hn8, hc1, hnl, hi, hih, hkl, hc2, hk, ho, hot, htn, hn17, hgt]; first | rfl | exact (Bool.not_not _).symm) ?_
              (with_reducible refine WG.isX ?_); refine WGx.mk hΓ rfl rfl (by intro hg; (try simp at hg); simp [hnx, hn8, hc1, hnl, hi, hih, hkl, hc2, hk, ho, hot, htn, hn17, hgt, hg, nth_eq, -getElem?_pos]; rfl) (by simp [hnx, hn8, hc1, hnl, hi, hih, hkl, hc2, hk, ho, hot, htn, hn17, hgt]; rfl) ?_
              refine WOps.n hΓ 1 (by simp [hnx, hn8, hc1, hnl, hi, hih, hkl, hc2, hk, ho, hot, htn, hn17, hgt]; first | rfl | exact ⟨rfl, rfl⟩) rfl ?_
              refine WOps.endK ?_
              refine W.keep [0, 1, 3, 5, 6, 10, 11, 13, 14, 31, 32, 33, 50, 51, 54, 55, 56, 57, 66, 67, 68] (by simp [hnx, hn8, hc1, hnl, hi, hih, hkl, hc2, hk, ho, hot, htn, hn17, hgt]; rfl) ?_
              refine W.cond (t := false) (by simp [hnx, hn8, hc1, hnl, hi, hih, hkl, hc2, hk, ho, hot, htn, hn17, hgt]) ?_
              simp only [if_true, Bool.false_eq_true, if_false]
              refine W.skip ?_
              refine thenQ_n (hK5 _ ?_)
              clear hK5 K5
              refine W.regK hΓ [0, 1, 3, 5, 6, 10, 11, 13, 14, 31, 32, 33, 50, 51, 54, 55, 56, 66, 67, 68] (by simp [hnx, hn8, hc1, hnl, hi, hih, hkl, hc2, hk, ho, hot, htn, hn17, hgt]; rfl) ?_
              refine W.seqk fun K6 hK6 => ?_
              by_cases hmo : more = true
              ·
                have ih0 := ih (tk.set g[k] true) true (by simp [htk]) (by omega)
                simp only [List.length_set] at ih0
                refine W.seqR ?_
                refine WOps.n hΓ 5 (by simp [hnx, hn8, hc1, hnl, hi, hih, hkl, hc2, hk, ho, hot, htn, hn17, hgt, hmo]; (try (simp (disch := omega) only [wrap_i64, mul_i64, capOk_of]; (try simp [hnx, hn8, hc1, hnl, hi, hih, hkl, hc2, hk, ho, hot, htn, hn17, hgt, hmo]))); first | rfl | exact ⟨rfl, rfl⟩) rfl ?_
                refine WOps.gd rfl rfl (by simp [hnx, hn8, hc1, hnl, hi, hih, hkl, hc2, hk, ho, hot, htn, hn17, hgt, hmo]; first | rfl | exact (Bool.not_not _).symm) ?_
                (with_reducible refine WG.isF ?_); refine WGf.mk rfl (by simp [hnx, hn8, hc1, hnl, hi, hih, hkl, hc2, hk, ho, hot, htn, hn17, hgt, hmo]; rfl) ?_
                refine WOps.gd rfl rfl (by simp [hnx, hn8, hc1, hnl, hi, hih, hkl, hc2, hk, ho, hot, htn, hn17, hgt, hmo]; first | rfl | exact (Bool.not_not _).symm) ?_
                (with_reducible refine WG.isF ?_); refine WGf.mk rfl (by simp [hnx, hn8, hc1, hnl, hi, hih, hkl, hc2, hk, ho, hot, htn, hn17, hgt, hmo]; rfl) ?_
                refine WOps.gd rfl rfl (by simp [hnx, hn8, hc1, hnl, hi, hih, hkl, hc2, hk, ho, hot, htn, hn17, hgt, hmo]; first | rfl | exact (Bool.not_not _).symm) ?_
                (with_reducible refine WG.isF ?_); refine WGf.mk rfl (by simp [hnx, hn8, hc1, hnl, hi, hih, hkl, hc2, hk, ho, hot, htn, hn17, hgt, hmo]; rfl) ?_
                refine WOps.n hΓ 1 (by simp [hnx, hn8, hc1, hnl, hi, hih, hkl, hc2, hk, ho, hot, htn, hn17, hgt, hmo]; first | rfl | exact ⟨rfl, rfl⟩) rfl ?_
                refine WOps.call rfl rfl rfl rfl [(10000, 10000), (10001, 10001), (10002, 10002), (10003, 10003), (10004, 10004), (10005, 10005)] rfl rfl (by decide) (by simp [hnx, hn8, hc1, hnl, hi, hih, hkl, hc2, hk, ho, hot, htn, hn17, hgt, hmo]; first | rfl | exact ⟨rfl, rfl⟩) (by simp [hnx, hn8, hc1, hnl, hi, hih, hkl, hc2, hk, ho, hot, htn, hn17, hgt, hmo]; rfl) ?_
                refine CallT.mkE (ih0) (fun z70 hz70 => ⟨(by simp [hnx, hn8, hc1, hnl, hi, hih, hkl, hc2, hk, ho, hot, htn, hn17, hgt, hmo]), ?_⟩)
                refine WOps.norm (by simp [hnx, hn8, hc1, hnl, hi, hih, hkl, hc2, hk, ho, hot, htn, hn17, hgt, hmo]; rfl) ?_
                refine WOps.endK ?_
                refine W.keep [0, 1, 3, 5, 6, 10, 11, 13, 31, 32, 33, 50, 51, 54, 55, 56, 66, 67, 68, 70] (by simp [hnx, hn8, hc1, hnl, hi, hih, hkl, hc2, hk, ho, hot, htn, hn17, hgt, hmo]; rfl) ?_
                refine W.ite (by simp [hnx, hn8, hc1, hnl, hi, hih, hkl, hc2, hk, ho, hot, htn, hn17, hgt, hmo]; first | rfl | exact (Bool.not_not _).symm) (fun hc7 => ?_) (fun hc7 => ?_)
                ·
                  try simp at hc7
                  refine W.regK hΓ [9] (by simp [hnx, hn8, hc1, hnl, hi, hih, hkl, hc2, hk, ho, hot, htn, hn17, hgt, hmo, hc7]; rfl) ?_
                  refine W.ret ?_
                  refine thenQ_r ?_
                  clear hK6 K6
                  refine blockQ_r ?_
                  refine thenQ_r ?_
                  clear hK4 K4
                  refine thenQ_r ?_
                  refine blockQ_r ?_
                  refine thenQ_r ?_
                  clear hK2 K2
                  refine EndQ.r false [] [(10000, 10000), (10001, 10001), (10002, 10002), (10003, 10003), (10004, 10004), (10005, 10005)] (by simp [hnx, hn8, hc1, hnl, hi, hih, hkl, hc2, hk, ho, hot, htn, hn17, hgt, hmo, hc7]; first | rfl | exact ⟨rfl, rfl⟩) ?_
                  -- 17 end
                  have hq : giveB (canG ow lk held) (gainG ow lk held) g (f + 1) tk next more = true := by rw [qhe]; simp [htn, hn17, hgt, hmo, hc7]
                  exact ⟨z70, by rw [hq], rfl, hz70.1, fun h => by rw [hq] at h; cases h⟩
                ·
                  try simp at hc7
                  refine W.skip ?_
                  refine thenQ_n (hK6 _ ?_)
                  clear hK6 K6
                  obtain ⟨hzl, hze⟩ := hz70
                  obtain rfl := hze (by assumption)
                  have hset : (tk.set g[k] true).set g[k] false = tk := set_back hot (by simpa using htn)
                  refine W.regE hΓ (by simp [hnx, hn8, hc1, hnl, hi, hih, hkl, hc2, hk, ho, hot, htn, hn17, hgt, hmo, hc7, hset]; rfl) ?_
                  refine blockQ_n ?_
                  refine thenQ_n (hK4 _ ?_)
                  clear hK4 K4
                  refine W.regE hΓ (by simp [hnx, hn8, hc1, hnl, hi, hih, hkl, hc2, hk, ho, hot, htn, hn17, hgt, hmo, hc7, hset]; (try (simp (disch := omega) only [wrap_i64, mul_i64, capOk_of]; (try simp [hnx, hn8, hc1, hnl, hi, hih, hkl, hc2, hk, ho, hot, htn, hn17, hgt, hmo, hc7, hset]))); rfl) ?_
                  refine ⟨k + 1, Le.fit (by simp [hnx, hn8, hc1, hnl, hi, hih, hkl, hc2, hk, ho, hot, htn, hn17, hgt, hmo, hc7, hset]; rfl) (by rfl) (by rfl) (by rfl) ?_ ?_, ?_, ?_⟩
                  ·
                    try (simp [hnx, hn8, hc1, hnl, hi, hih, hkl, hc2, hk, ho, hot, htn, hn17, hgt, hmo, hc7, hset])
                    all_goals (
                      -- 18 back.tmps
                      first | done | omega | (simp_all; done) | (simp_all; omega)
                    )
                  ·
                    try (simp [hnx, hn8, hc1, hnl, hi, hih, hkl, hc2, hk, ho, hot, htn, hn17, hgt, hmo, hc7, hset])
                    all_goals (
                      -- 19 back.objs
                      first | done | omega | (simp_all; done) | (simp_all; omega)
                    )
                  ·
                    -- 20 back.inv
                    first | done | omega | (simp_all; done) | (simp_all; omega)
                  ·
                    -- 21 back.meas
                    first | done | omega | (simp_all; done) | (simp_all; omega)
              ·
                have ih0 := ih (tk.set g[k] true) (decide (rk ow lk g[next] ow[g[k]] < rk ow lk g[next] held[g[next]])) (by simp [htk]) (by omega)
                simp only [List.length_set] at ih0
                refine W.seqR ?_
                refine WOps.n hΓ 5 (by simp [hnx, hn8, hc1, hnl, hi, hih, hkl, hc2, hk, ho, hot, htn, hn17, hgt, hmo]; (try (simp (disch := omega) only [wrap_i64, mul_i64, capOk_of]; (try simp [hnx, hn8, hc1, hnl, hi, hih, hkl, hc2, hk, ho, hot, htn, hn17, hgt, hmo]))); first | rfl | exact ⟨rfl, rfl⟩) rfl ?_
                refine WOps.gd rfl rfl (by simp [hnx, hn8, hc1, hnl, hi, hih, hkl, hc2, hk, ho, hot, htn, hn17, hgt, hmo]; first | rfl | exact (Bool.not_not _).symm) ?_
                (with_reducible refine WG.isT ?_); refine WGt.mk hΓ rfl (by simp [hnx, hn8, hc1, hnl, hi, hih, hkl, hc2, hk, ho, hot, htn, hn17, hgt, hmo]; first | rfl | exact ⟨rfl, rfl⟩) (by simp [hnx, hn8, hc1, hnl, hi, hih, hkl, hc2, hk, ho, hot, htn, hn17, hgt, hmo]; rfl) ?_
                refine WOps.gd rfl rfl (by simp [hnx, hn8, hc1, hnl, hi, hih, hkl, hc2, hk, ho, hot, htn, hn17, hgt, hmo]; first | rfl | exact (Bool.not_not _).symm) ?_
                (with_reducible refine WG.isT ?_); refine WGt.mk hΓ rfl (by simp [hnx, hn8, hc1, hnl, hi, hih, hkl, hc2, hk, ho, hot, htn, hn17, hgt, hmo]; first | rfl | exact ⟨rfl, rfl⟩) (by simp [hnx, hn8, hc1, hnl, hi, hih, hkl, hc2, hk, ho, hot, htn, hn17, hgt, hmo]; rfl) ?_
                refine WOps.gd rfl rfl (by simp [hnx, hn8, hc1, hnl, hi, hih, hkl, hc2, hk, ho, hot, htn, hn17, hgt, hmo]; first | rfl | exact (Bool.not_not _).symm) ?_
                (with_reducible refine WG.isT ?_); refine WGt.mk hΓ rfl (by simp [hnx, hn8, hc1, hnl, hi, hih, hkl, hc2, hk, ho, hot, htn, hn17, hgt, hmo]; first | rfl | exact ⟨rfl, rfl⟩) (by simp [hnx, hn8, hc1, hnl, hi, hih, hkl, hc2, hk, ho, hot, htn, hn17, hgt, hmo]; rfl) ?_
                refine WOps.n hΓ 1 (by simp [hnx, hn8, hc1, hnl, hi, hih, hkl, hc2, hk, ho, hot, htn, hn17, hgt, hmo]; first | rfl | exact ⟨rfl, rfl⟩) rfl ?_
                refine WOps.call rfl rfl rfl rfl [(10000, 10000), (10001, 10001), (10002, 10002), (10003, 10003), (10004, 10004), (10005, 10005)] rfl rfl (by decide) (by simp [hnx, hn8, hc1, hnl, hi, hih, hkl, hc2, hk, ho, hot, htn, hn17, hgt, hmo]; first | rfl | exact ⟨rfl, rfl⟩) (by simp [hnx, hn8, hc1, hnl, hi, hih, hkl, hc2, hk, ho, hot, htn, hn17, hgt, hmo]; rfl) ?_
                refine CallT.mkE (ih0) (fun z70 hz70 => ⟨(by simp [hnx, hn8, hc1, hnl, hi, hih, hkl, hc2, hk, ho, hot, htn, hn17, hgt, hmo]), ?_⟩)
                refine WOps.norm (by simp [hnx, hn8, hc1, hnl, hi, hih, hkl, hc2, hk, ho, hot, htn, hn17, hgt, hmo]; rfl) ?_
                refine WOps.endK ?_
                refine W.keep [0, 1, 3, 5, 6, 10, 11, 13, 31, 32, 33, 50, 51, 54, 55, 56, 66, 67, 68, 70] (by simp [hnx, hn8, hc1, hnl, hi, hih, hkl, hc2, hk, ho, hot, htn, hn17, hgt, hmo]; rfl) ?_
                refine W.ite (by simp [hnx, hn8, hc1, hnl, hi, hih, hkl, hc2, hk, ho, hot, htn, hn17, hgt, hmo]; first | rfl | exact (Bool.not_not _).symm) (fun hc8 => ?_) (fun hc8 => ?_)
                ·
                  try simp at hc8
                  refine W.regK hΓ [9] (by simp [hnx, hn8, hc1, hnl, hi, hih, hkl, hc2, hk, ho, hot, htn, hn17, hgt, hmo, hc8]; rfl) ?_
                  refine W.ret ?_
                  refine thenQ_r ?_
                  clear hK6 K6
                  refine blockQ_r ?_
                  refine thenQ_r ?_
                  clear hK4 K4
                  refine thenQ_r ?_
                  refine blockQ_r ?_
                  refine thenQ_r ?_
                  clear hK2 K2
                  refine EndQ.r false [] [(10000, 10000), (10001, 10001), (10002, 10002), (10003, 10003), (10004, 10004), (10005, 10005)] (by simp [hnx, hn8, hc1, hnl, hi, hih, hkl, hc2, hk, ho, hot, htn, hn17, hgt, hmo, hc8]; first | rfl | exact ⟨rfl, rfl⟩) ?_
                  -- 22 end
                  have hq : giveB (canG ow lk held) (gainG ow lk held) g (f + 1) tk next more = true := by rw [qhe]; simp [htn, hn17, hgt, hmo, hc8]
                  exact ⟨z70, by rw [hq], rfl, hz70.1, fun h => by rw [hq] at h; cases h⟩
                ·
                  try simp at hc8
                  refine W.skip ?_
                  refine thenQ_n (hK6 _ ?_)
                  clear hK6 K6
                  obtain ⟨hzl, hze⟩ := hz70
                  obtain rfl := hze (by assumption)
                  have hset : (tk.set g[k] true).set g[k] false = tk := set_back hot (by simpa using htn)
                  refine W.regE hΓ (by simp [hnx, hn8, hc1, hnl, hi, hih, hkl, hc2, hk, ho, hot, htn, hn17, hgt, hmo, hc8, hset]; rfl) ?_
                  refine blockQ_n ?_
                  refine thenQ_n (hK4 _ ?_)
                  clear hK4 K4
                  refine W.regE hΓ (by simp [hnx, hn8, hc1, hnl, hi, hih, hkl, hc2, hk, ho, hot, htn, hn17, hgt, hmo, hc8, hset]; (try (simp (disch := omega) only [wrap_i64, mul_i64, capOk_of]; (try simp [hnx, hn8, hc1, hnl, hi, hih, hkl, hc2, hk, ho, hot, htn, hn17, hgt, hmo, hc8, hset]))); rfl) ?_
                  refine ⟨k + 1, Le.fit (by simp [hnx, hn8, hc1, hnl, hi, hih, hkl, hc2, hk, ho, hot, htn, hn17, hgt, hmo, hc8, hset]; rfl) (by rfl) (by rfl) (by rfl) ?_ ?_, ?_, ?_⟩
                  ·
                    try (simp [hnx, hn8, hc1, hnl, hi, hih, hkl, hc2, hk, ho, hot, htn, hn17, hgt, hmo, hc8, hset])
                    all_goals (
                      -- 23 back.tmps
                      first | done | omega | (simp_all; done) | (simp_all; omega)
                    )
                  ·
                    try (simp [hnx, hn8, hc1, hnl, hi, hih, hkl, hc2, hk, ho, hot, htn, hn17, hgt, hmo, hc8, hset])
                    all_goals (
                      -- 24 back.objs
                      first | done | omega | (simp_all; done) | (simp_all; omega)
                    )
                  ·
                    -- 25 back.inv
                    first | done | omega | (simp_all; done) | (simp_all; omega)
                  ·
                    -- 26 back.meas
                    first | done | omega | (simp_all; done) | (simp_all; omega)
      ·
        try simp at hc2
        refine W.exit ?_
        refine thenQ_e ?_
        clear hK3 K3
        refine thenQ_e ?_
        refine blockQ_s ?_
        refine thenQ_n (hK2 _ ?_)
        clear hK2 K2
        refine W.regK hΓ [9] (by simp [hnx, hn8, hc1, hnl, hi, hih, hkl, hc2]; rfl) ?_
        refine W.ret ?_
        refine EndQ.r false [] [(10000, 10000), (10001, 10001), (10002, 10002), (10003, 10003), (10004, 10004), (10005, 10005)] (by simp [hnx, hn8, hc1, hnl, hi, hih, hkl, hc2]; first | rfl | exact ⟨rfl, rfl⟩) ?_
        -- 27 end
        exact ⟨tk, by rw [he, List.drop_of_length_le hc2]; rfl, rfl, rfl, fun _ => rfl⟩
theorem give_ok (ow : List Turn) (lk : List (List Turn)) (held : List Turn) (hv : ValidT ow lk) (hh : held.length = ow.length) (g : List Nat) (hg : ∀ y ∈ g, y < ow.length) (hg8 : g.length ≤ 8) : ∀ (f next : Nat) (tk : List Bool) (more : Bool), tk.length = ow.length → next ≤ g.length → g.length < f + next →
    ACalls Try.prog 81 [I (next : Int), B more, .ptr 10000 0 0, .ptr 10001 0 0, .ptr 10002 0 0, .ptr 10003 0 0, .ptr 10004 0 0] [(10000, .row false 26 1 [rgV g]), (10001, .row false 25 2 [trade ow lk]), (10002, .row false 22 1 [turns held]), (10003, .row false 62 1 [.own 10005 0 tk.length]), (10004, .row false 96 1 [.clo 81 [.ptr 10000 0 0, .ptr 10001 0 0, .ptr 10002 0 0, .ptr 10003 0 0, .ptr 10004 0 0]]), (10005, .row true 4 1 (tk.map B))] (fun r o => ∃ tk' : List Bool, r = B (giveB (canG ow lk held) (gainG ow lk held) g f tk next more) ∧ o = [(10000, .row false 26 1 [rgV g]), (10001, .row false 25 2 [trade ow lk]), (10002, .row false 22 1 [turns held]), (10003, .row false 62 1 [.own 10005 0 tk.length]), (10004, .row false 96 1 [.clo 81 [.ptr 10000 0 0, .ptr 10001 0 0, .ptr 10002 0 0, .ptr 10003 0 0, .ptr 10004 0 0]]), (10005, .row true 4 1 (tk'.map B))] ∧ tk'.length = tk.length ∧ (giveB (canG ow lk held) (gainG ow lk held) g f tk next more = false → tk' = tk))
  | 0, next, _, _, _, h1, h2 => by omega
  | f + 1, next, tk, more, h0, h1, h2 => give_step ow lk held hv hh g hg hg8 f next tk more h0 h1 fun tk' more' e1 e2 => give_ok ow lk held hv hh g hg hg8 f (next + 1) tk' more' e1 e2 (by omega)
/-- does a group block -/
def blockG (ow : List Turn) (lk : List (List Turn)) (held : List Turn) (g : List Nat) : Bool := giveB (canG ow lk held) (gainG ow lk held) g (g.length + 1) (List.replicate ow.length false) 0 false
set_option maxHeartbeats 4000000 in
theorem blocks_ok (ow : List Turn) (lk : List (List Turn)) (held : List Turn) (g : List Nat) (hv : ValidT ow lk) (hh : held.length = ow.length) (hg : ∀ y ∈ g, y < ow.length) (hg8 : g.length ≤ 8) : ACalls Try.prog 58 [trade ow lk, turns held, rgV g] [] (fun r o => r = B (blockG ow lk held g) ∧ o = []) := by
  refine ACalls.enter hΓ Try.func58 rfl (by kernel_rfl) Try.ntmps58 (by rw [Try.results58]) (by simp) (by simp; rfl) ?_
  have hn8 : ow.length ≤ 8 := hv.most
  have hnn : (ow.length : Int) ≤ 16777216 := by omega
  have qgk := give_ok ow lk held hv hh g hg hg8 (g.length + 1) 0 (List.replicate ow.length false) false (by simp) (by omega) (by omega)
  simp only [List.map_replicate, List.length_replicate] at qgk
  refine W.regK hΓ [3, 4, 5] (by simp [hn8, hnn]; rfl) ?_
  refine W.regK hΓ [3, 4, 5, 7] (by simp [hn8, hnn]; rfl) ?_
  refine W.regK hΓ [3, 4, 5, 7, 8] (by simp [hn8, hnn]; rfl) ?_
  refine W.regK hΓ [8] (by simp [hn8, hnn]; rfl) ?_
  refine W.seqR ?_
  refine WOps.n hΓ 1 (by simp [hn8, hnn]; first | rfl | exact ⟨rfl, rfl⟩) rfl ?_
  refine WOps.call rfl rfl rfl rfl [(10000, 40), (10001, 24), (10002, 32), (10003, 56), (10004, 64), (10005, 96)] rfl rfl (by decide) (by simp [hn8, hnn]; first | rfl | exact ⟨rfl, rfl⟩) (by simp [hn8, hnn]; rfl) ?_
  refine CallT.mkE (qgk) (fun z15 hz15 => ⟨(by simp [hn8, hnn]), ?_⟩)
  refine WOps.norm (by simp [hn8, hnn]; rfl) ?_
  refine WOps.n hΓ 1 (by simp [hn8, hnn]; first | rfl | exact ⟨rfl, rfl⟩) rfl ?_
  refine WOps.endK ?_
  refine W.keep [6] (by simp [hn8, hnn]; rfl) ?_
  refine W.ret ?_
  refine EndQ.r false [] [] (by simp [hn8, hnn]; first | rfl | exact ⟨rfl, rfl⟩) ?_
  -- 1 end
  exact ⟨rfl, rfl⟩
end Go.Sim
