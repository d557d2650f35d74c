/- The reference's rings. -/
import Derived.Test.YtggbbldoopfejaaVm
namespace Go.Sim
open Go.Proofs Go.Plain
set_option maxRecDepth 100000
set_option linter.unusedSimpArgs false
attribute [-simp] List.map_set List.map_take List.map_drop
attribute [local simp] take_map' drop_map'
/-- who is left, one by one -/
def lfOf (n : Nat) (L : List Nat) : List Bool := (List.range n).map fun i => decide (i ∈ L)
theorem lfOf_length (n : Nat) (L : List Nat) : (lfOf n L).length = n := by simp [lfOf]
theorem lfOf_get {n : Nat} {L : List Nat} {i : Nat} (h : i < (lfOf n L).length) : (lfOf n L)[i] = decide (i ∈ L) := by simp [lfOf]
theorem lfOf_erase {n : Nat} {L : List Nat} (hd : L.Nodup) (x : Nat) : (lfOf n L).set x false = lfOf n (L.erase x) := by
  refine List.ext_getElem (by simp [lfOf_length]) fun i h1 h2 => ?_
  rw [List.getElem_set, lfOf_get, lfOf_get]
  split
  · rename_i h; subst h; simp [hd.mem_erase_iff]
  · rename_i h; rw [decide_eq_decide, hd.mem_erase_iff]
    exact ⟨fun h' => ⟨Ne.symm h, h'⟩, fun h' => h'.2⟩
theorem lfOf_range (n : Nat) : List.replicate n false = lfOf n (List.range 0) := by
  refine List.ext_getElem (by simp [lfOf_length]) fun i h1 h2 => ?_
  rw [lfOf_get]; simp
theorem lfOf_succ {n k : Nat} : (lfOf n (List.range k)).set k true = lfOf n (List.range (k + 1)) := by
  refine List.ext_getElem (by simp [lfOf_length]) fun i h1 h2 => ?_
  rw [List.getElem_set, lfOf_get, lfOf_get]
  split
  · rename_i h; subst h; simp
  · rw [decide_eq_decide]; simp; omega
/-- at whom a trader points, along a list of turns -/
def ptK (ow : List Turn) (L : List Nat) (i : Nat) : List Turn → Nat
  | [] => i
  | x :: r => if x ∈ ow ∧ ow.idxOf x ∈ L then ow.idxOf x else ptK ow L i r
theorem ptK_at {ow : List Turn} {L : List Nat} {i : Nat} {l : List Turn} {k : Nat} (h : k < l.length) : ptK ow L i (l.drop k) = if l[k] ∈ ow ∧ ow.idxOf l[k] ∈ L then ow.idxOf l[k] else ptK ow L i (l.drop (k + 1)) := by
  rw [List.drop_eq_getElem_cons h, ptK]
theorem idxOf_self {ow : List Turn} (hd : ow.Nodup) {i : Nat} (hi : i < ow.length) : ow.idxOf ow[i] = i := by
  exact hd.idxOf_getElem i hi
theorem ptK_takes {ow : List Turn} (hd : ow.Nodup) {L : List Nat} {i : Nat} (hi : i < ow.length) : ∀ l : List Turn, ptK ow L i (l.take (l.idxOf ow[i]) ++ [ow[i]]) = ptL ow L i ow[i] l
  | [] => by
    simp only [List.idxOf_nil, List.take_nil, List.nil_append, ptK, ptL, idxOf_self hd hi]
    split <;> rfl
  | x :: r => by
    rw [ptL]
    by_cases hx : x = ow[i]
    · subst hx
      rw [if_pos rfl, List.idxOf_cons_self]
      simp only [List.take_zero, List.nil_append, ptK, idxOf_self hd hi]
      split <;> rfl
    · rw [if_neg hx, show (x :: r).idxOf ow[i] = r.idxOf ow[i] + 1 by rw [List.idxOf_cons, cond_eq_ite, if_neg (by simpa using hx)], List.take_succ_cons, List.cons_append, ptK, ptK_takes hd hi r]
theorem ptK_takesT {ow : List Turn} {lk : List (List Turn)} (hd : ow.Nodup) {L : List Nat} {i : Nat} (hi : i < ow.length) (hk : i < lk.length) : ptK ow L i (takesT ow lk i) = ptF ow lk L i := by
  rw [takesT_eq hi hk, ptK_takes hd hi, ptF_eq hi hk]
set_option maxHeartbeats 4000000 in
theorem rpoints_ok (ow : List Turn) (lk : List (List Turn)) (L : List Nat) (i : Nat) (hv : ValidT ow lk) (hi : i < ow.length) : ACalls Try.prog 84 [trade ow lk, .own 10000 0 ow.length, I i] [(10000, .row true 4 1 ((lfOf ow.length L).map B))] (fun r o => r = I (ptF ow lk L i : Nat) ∧ o = [(10000, .row true 4 1 ((lfOf ow.length L).map B))]) := by
  refine ACalls.enter hΓ Try.func84 rfl (by kernel_rfl) Try.ntmps84 (by rw [Try.results84]) (by simp) (by simp; rfl) ?_
  have hn8 : ow.length ≤ 8 := hv.most
  have qs : lk.length = ow.length := hv.same
  have qk : i < lk.length := by omega
  have q16 : lk[i].length ≤ 1000 := Nat.le_trans (hv.likes _ (List.getElem_mem qk)).2 (by omega)
  have qtl : (takesT ow lk i).length ≤ 1001 := by rw [takesT_eq hi qk]; simp; omega
  have hll := lfOf_length ow.length L
  refine W.regK hΓ [1, 2, 3, 32, 33, 34, 35] (by simp [hn8, hll]; rfl) ?_
  refine W.seqR ?_
  refine WOps.n hΓ 2 (by simp [hn8, hll]; first | rfl | exact ⟨rfl, rfl⟩) rfl ?_
  refine WOps.call rfl rfl rfl rfl [] rfl rfl (by decide) (by simp [hn8, hll]; first | rfl | exact ⟨rfl, rfl⟩) (by simp [hn8, hll]; rfl) ?_
  refine CallT.mk (Takes_imm ow lk i hi qk q16) (by simp [hn8, hll]) ?_
  refine WOps.norm (by simp [hn8, hll]; rfl) ?_
  refine WOps.n hΓ 1 (by simp [hn8, hll]; first | rfl | exact ⟨rfl, rfl⟩) rfl ?_
  refine WOps.endK ?_
  refine W.keep [1, 2, 3, 7, 32, 33, 34, 35] (by simp [hn8, hll]; rfl) ?_
  refine W.seqk fun K1 hK1 => ?_
  refine W.regK hΓ [1, 2, 3, 7, 8, 32, 33, 34, 35] (by simp [hn8, hll]; rfl) ?_
  refine W.block ?_
  refine W.loopU (α := Nat) [1, 2, 3, 7] [15, 25, 29] [] (fun k => [(8, I k)]) (fun k => []) (fun k => k ≤ (takesT ow lk i).length ∧ ptF ow lk L i = ptK ow L i ((takesT ow lk i).drop k)) (fun k => (takesT ow lk i).length - k) 0 rfl (by simp [hn8, hll]; rfl) (by simp [hn8, hll]; rfl) ?_ ?_ ?_
  ·
    refine Le.fit (by simp [hn8, hll]; rfl) (by rfl) (by rfl) (by rfl) ?_ ?_
    ·
      try (simp [hn8, hll])
      all_goals (
        -- 1 init.tmps
        first | done | omega | (simp_all; done) | (simp_all; omega)
      )
    ·
      try (simp [hn8, hll])
      all_goals (
        -- 2 init.objs
        first | done | omega | (simp_all; done) | (simp_all; omega)
      )
  ·
    -- 3 init.inv
    exact ⟨by omega, by rw [List.drop_zero, ptK_takesT hv.owns.1 hi qk]⟩
  ·
    intro k hI0
    simp only [List.cons_append, List.nil_append]
    try dsimp only at hI0
    obtain ⟨hkl, he⟩ := hI0
    refine W.seqk fun K2 hK2 => ?_
    refine W.regK hΓ [1, 2, 3, 7, 8, 16, 32, 33, 34, 35] (by simp [hn8, hll, hkl]; rfl) ?_
    refine W.ite (by simp [hn8, hll, hkl]; first | rfl | exact (Bool.not_not _).symm) (fun hc1 => ?_) (fun hc1 => ?_)
    ·
      try simp at hc1
      refine W.skip ?_
      refine thenQ_n (hK2 _ ?_)
      clear hK2 K2
      refine W.seqk fun K3 hK3 => ?_
      refine W.block ?_
      refine W.drawT hm 6 [] (deps := [[], [0], [], [], [3, 2], [2, 3, 4], [4, 3, 2, 5, 0, 1], [1, 0, 5, 2, 3, 4, 6]]) (by rfl) (by rfl) ?_
      refine WDraw.n hΓ 6 0 rfl (by simp [hn8, hll, hkl, hc1]; exact ⟨rfl, rfl, rfl⟩) rfl ?_
      refine WDraw.done (by simp [hn8, hll, hkl, hc1]; rfl) ?_
      refine WOps.call rfl rfl rfl rfl [] rfl rfl (by decide) (by simp [hn8, hll, hkl, hc1]; first | rfl | exact ⟨rfl, rfl⟩) (by simp [hn8, hll, hkl, hc1]; rfl) ?_
      refine CallT.mk (At_ok _ _ _) (by simp [hn8, hll, hkl, hc1]) ?_
      refine WOps.norm (by simp [hn8, hll, hkl, hc1]; rfl) ?_
      refine WOps.n hΓ 1 (by simp [hn8, hll, hkl, hc1]; first | rfl | exact ⟨rfl, rfl⟩) rfl ?_
      refine WOps.endK ?_
      refine W.keep [1, 2, 3, 7, 8, 9, 32, 33, 34, 35] (by simp [hn8, hll, hkl, hc1]; rfl) ?_
      by_cases hmem : (takesT ow lk i)[k] ∈ ow
      ·
        have hix : ow.idxOf (takesT ow lk i)[k] < ow.length := List.idxOf_lt_length_iff.2 hmem
        have hlf : (lfOf ow.length L)[ow.idxOf (takesT ow lk i)[k]]'(by rw [hll]; exact hix) = decide (ow.idxOf (takesT ow lk i)[k] ∈ L) := lfOf_get _
        by_cases hL : ow.idxOf (takesT ow lk i)[k] ∈ L
        ·
          refine W.seqR ?_
          refine WOps.n hΓ 6 (by simp [hn8, hll, hkl, hc1, hmem, hix, hlf, hL]; first | rfl | exact ⟨rfl, rfl⟩) rfl ?_
          refine WOps.gd rfl rfl (by simp [hn8, hll, hkl, hc1, hmem, hix, hlf, hL]; first | rfl | exact (Bool.not_not _).symm) ?_
          (with_reducible refine WG.isT ?_); refine WGt.mk hΓ rfl (by simp [hn8, hll, hkl, hc1, hmem, hix, hlf, hL]; first | rfl | exact ⟨rfl, rfl⟩) (by simp [hn8, hll, hkl, hc1, hmem, hix, hlf, hL]; rfl) ?_
          refine WOps.gd rfl rfl (by simp [hn8, hll, hkl, hc1, hmem, hix, hlf, hL]; first | rfl | exact (Bool.not_not _).symm) ?_
          (with_reducible refine WG.isT ?_); refine WGt.mk hΓ rfl (by simp [hn8, hll, hkl, hc1, hmem, hix, hlf, hL]; first | rfl | exact ⟨rfl, rfl⟩) (by simp [hn8, hll, hkl, hc1, hmem, hix, hlf, hL]; rfl) ?_
          refine WOps.gd rfl rfl (by simp [hn8, hll, hkl, hc1, hmem, hix, hlf, hL]; first | rfl | exact (Bool.not_not _).symm) ?_
          (with_reducible refine WG.isT ?_); refine WGt.mk hΓ rfl (by simp [hn8, hll, hkl, hc1, hmem, hix, hlf, hL]; first | rfl | exact ⟨rfl, rfl⟩) (by simp [hn8, hll, hkl, hc1, hmem, hix, hlf, hL]; rfl) ?_
          refine WOps.gd rfl rfl (by simp [hn8, hll, hkl, hc1, hmem, hix, hlf, hL]; first | rfl | exact (Bool.not_not _).symm) ?_
          (with_reducible refine WG.isT ?_); refine WGt.mk hΓ rfl (by simp [hn8, hll, hkl, hc1, hmem, hix, hlf, hL]; first | rfl | exact ⟨rfl, rfl⟩) (by simp [hn8, hll, hkl, hc1, hmem, hix, hlf, hL]; rfl) ?_
          refine WOps.n hΓ 1 (by simp [hn8, hll, hkl, hc1, hmem, hix, hlf, hL]; first | rfl | exact ⟨rfl, rfl⟩) rfl ?_
          refine WOps.endK ?_
          refine W.keep [1, 2, 3, 7, 8, 9, 32, 33, 34, 35, 36] (by simp [hn8, hll, hkl, hc1, hmem, hix, hlf, hL]; rfl) ?_
          refine W.cond (t := true) (by simp [hn8, hll, hkl, hc1, hmem, hix, hlf, hL]) ?_
          simp only [if_true, Bool.false_eq_true, if_false]
          refine W.regK hΓ [6] (by simp [hn8, hll, hkl, hc1, hmem, hix, hlf, hL]; rfl) ?_
          refine W.ret ?_
          refine blockQ_r ?_
          refine thenQ_r ?_
          clear hK3 K3
          refine thenQ_r ?_
          refine blockQ_r ?_
          refine thenQ_r ?_
          clear hK1 K1
          refine EndQ.r false [] [(10000, 10000)] (by simp [hn8, hll, hkl, hc1, hmem, hix, hlf, hL]; first | rfl | exact ⟨rfl, rfl⟩) ?_
          -- 4 end
          exact ⟨congrArg (fun n : Nat => I (n : Int)) (by rw [he, ptK_at hc1, if_pos ⟨hmem, hL⟩]), rfl⟩
        ·
          refine W.seqR ?_
          refine WOps.n hΓ 6 (by simp [hn8, hll, hkl, hc1, hmem, hix, hlf, hL]; first | rfl | exact ⟨rfl, rfl⟩) rfl ?_
          refine WOps.gd rfl rfl (by simp [hn8, hll, hkl, hc1, hmem, hix, hlf, hL]; first | rfl | exact (Bool.not_not _).symm) ?_
          (with_reducible refine WG.isT ?_); refine WGt.mk hΓ rfl (by simp [hn8, hll, hkl, hc1, hmem, hix, hlf, hL]; first | rfl | exact ⟨rfl, rfl⟩) (by simp [hn8, hll, hkl, hc1, hmem, hix, hlf, hL]; rfl) ?_
          refine WOps.gd rfl rfl (by simp [hn8, hll, hkl, hc1, hmem, hix, hlf, hL]; first | rfl | exact (Bool.not_not _).symm) ?_
          (with_reducible refine WG.isT ?_); refine WGt.mk hΓ rfl (by simp [hn8, hll, hkl, hc1, hmem, hix, hlf, hL]; first | rfl | exact ⟨rfl, rfl⟩) (by simp [hn8, hll, hkl, hc1, hmem, hix, hlf, hL]; rfl) ?_
          refine WOps.gd rfl rfl (by simp [hn8, hll, hkl, hc1, hmem, hix, hlf, hL]; first | rfl | exact (Bool.not_not _).symm) ?_
          (with_reducible refine WG.isT ?_); refine WGt.mk hΓ rfl (by simp [hn8, hll, hkl, hc1, hmem, hix, hlf, hL]; first | rfl | exact ⟨rfl, rfl⟩) (by simp [hn8, hll, hkl, hc1, hmem, hix, hlf, hL]; rfl) ?_
          refine WOps.gd rfl rfl (by simp [hn8, hll, hkl, hc1, hmem, hix, hlf, hL]; first | rfl | exact (Bool.not_not _).symm) ?_
          (with_reducible refine WG.isT ?_); refine WGt.mk hΓ rfl (by simp [hn8, hll, hkl, hc1, hmem, hix, hlf, hL]; first | rfl | exact ⟨rfl, rfl⟩) (by simp [hn8, hll, hkl, hc1, hmem, hix, hlf, hL]; rfl) ?_
          refine WOps.n hΓ 1 (by simp [hn8, hll, hkl, hc1, hmem, hix, hlf, hL]; first | rfl | exact ⟨rfl, rfl⟩) rfl ?_
          refine WOps.endK ?_
          refine W.keep [1, 2, 3, 7, 8, 9, 32, 33, 34, 35, 36] (by simp [hn8, hll, hkl, hc1, hmem, hix, hlf, hL]; rfl) ?_
          refine W.cond (t := false) (by simp [hn8, hll, hkl, hc1, hmem, hix, hlf, hL]) ?_
          simp only [if_true, Bool.false_eq_true, if_false]
          refine W.skip ?_
          refine blockQ_n ?_
          refine thenQ_n (hK3 _ ?_)
          clear hK3 K3
          refine W.regE hΓ (by simp [hn8, hll, hkl, hc1, hmem, hix, hlf, hL]; (try (simp (disch := omega) only [wrap_i64, mul_i64, capOk_of]; (try simp [hn8, hll, hkl, hc1, hmem, hix, hlf, hL]))); rfl) ?_
          refine ⟨k + 1, Le.fit (by simp [hn8, hll, hkl, hc1, hmem, hix, hlf, hL]; rfl) (by rfl) (by rfl) (by rfl) ?_ ?_, ?_, ?_⟩
          ·
            try (simp [hn8, hll, hkl, hc1, hmem, hix, hlf, hL])
            all_goals (
              -- 5 back.tmps
              first | done | omega | (simp_all; done) | (simp_all; omega)
            )
          ·
            try (simp [hn8, hll, hkl, hc1, hmem, hix, hlf, hL])
            all_goals (
              -- 6 back.objs
              first | done | omega | (simp_all; done) | (simp_all; omega)
            )
          ·
            -- 7 back.inv
            exact ⟨by omega, by rw [he, ptK_at hc1, if_neg (fun h => hL h.2)]⟩
          ·
            -- 8 back.meas
            first | done | omega | (simp_all; done) | (simp_all; omega)
      ·
        have hix : ¬ ow.idxOf (takesT ow lk i)[k] < ow.length := fun h => hmem (List.idxOf_lt_length_iff.1 h)
        refine W.seqR ?_
        refine WOps.n hΓ 6 (by simp [hn8, hll, hkl, hc1, hmem, hix]; first | rfl | exact ⟨rfl, rfl⟩) rfl ?_
        refine WOps.gd rfl rfl (by simp [hn8, hll, hkl, hc1, hmem, hix]; first | rfl | exact (Bool.not_not _).symm) ?_
        (with_reducible refine WG.isF ?_); refine WGf.mk rfl (by simp [hn8, hll, hkl, hc1, hmem, hix]; rfl) ?_
        refine WOps.gd rfl rfl (by simp [hn8, hll, hkl, hc1, hmem, hix]; first | rfl | exact (Bool.not_not _).symm) ?_
        (with_reducible refine WG.isF ?_); refine WGf.mk rfl (by simp [hn8, hll, hkl, hc1, hmem, hix]; rfl) ?_
        refine WOps.gd rfl rfl (by simp [hn8, hll, hkl, hc1, hmem, hix]; first | rfl | exact (Bool.not_not _).symm) ?_
        (with_reducible refine WG.isF ?_); refine WGf.mk rfl (by simp [hn8, hll, hkl, hc1, hmem, hix]; rfl) ?_
        refine WOps.gd rfl rfl (by simp [hn8, hll, hkl, hc1, hmem, hix]; first | rfl | exact (Bool.not_not _).symm) ?_
        (with_reducible refine WG.isF ?_); refine WGf.mk rfl (by simp [hn8, hll, hkl, hc1, hmem, hix]; rfl) ?_
        refine WOps.n hΓ 1 (by simp [hn8, hll, hkl, hc1, hmem, hix]; first | rfl | exact ⟨rfl, rfl⟩) rfl ?_
        refine WOps.endK ?_
        refine W.keep [1, 2, 3, 7, 8, 9, 32, 33, 34, 35, 36] (by simp [hn8, hll, hkl, hc1, hmem, hix]; rfl) ?_
        refine W.cond (t := false) (by simp [hn8, hll, hkl, hc1, hmem, hix]) ?_
        simp only [if_true, Bool.false_eq_true, if_false]
        refine W.skip ?_
        refine blockQ_n ?_
        refine thenQ_n (hK3 _ ?_)
        clear hK3 K3
        refine W.regE hΓ (by simp [hn8, hll, hkl, hc1, hmem, hix]; (try (simp (disch := omega) only [wrap_i64, mul_i64, capOk_of]; (try simp [hn8, hll, hkl, hc1, hmem, hix]))); rfl) ?_
        refine ⟨k + 1, Le.fit (by simp [hn8, hll, hkl, hc1, hmem, hix]; rfl) (by rfl) (by rfl) (by rfl) ?_ ?_, ?_, ?_⟩
        ·
          try (simp [hn8, hll, hkl, hc1, hmem, hix])
          all_goals (
            -- 9 back.tmps
            first | done | omega | (simp_all; done) | (simp_all; omega)
          )
        ·
          try (simp [hn8, hll, hkl, hc1, hmem, hix])
          all_goals (
            -- 10 back.objs
            first | done | omega | (simp_all; done) | (simp_all; omega)
          )
        ·
          -- 11 back.inv
          exact ⟨by omega, by rw [he, ptK_at hc1, if_neg (fun h => hmem h.1)]⟩
        ·
          -- 12 back.meas
          first | done | omega | (simp_all; done) | (simp_all; omega)
    ·
      try simp at hc1
      refine W.exit ?_
      refine thenQ_e ?_
      clear hK2 K2
      refine thenQ_e ?_
      refine blockQ_s ?_
      refine thenQ_n (hK1 _ ?_)
      clear hK1 K1
      refine W.regK hΓ [6] (by simp [hn8, hll, hkl, hc1]; rfl) ?_
      refine W.ret ?_
      refine EndQ.r false [] [(10000, 10000)] (by simp [hn8, hll, hkl, hc1]; first | rfl | exact ⟨rfl, rfl⟩) ?_
      -- 13 end
      exact ⟨congrArg (fun n : Nat => I (n : Int)) (by rw [he, List.drop_of_length_le hc1]; rfl), rfl⟩
theorem ptL_lt {ow : List Turn} {L : List Nat} {i : Nat} (hi : i < ow.length) {own : Turn} : ∀ {l : List Turn}, ptL ow L i own l < ow.length
  | [] => hi
  | x :: r => by
    rw [ptL]
    split
    · exact hi
    · split
      · rename_i h; exact List.idxOf_lt_length_iff.2 h.1
      · exact ptL_lt hi
theorem ptF_lt {ow : List Turn} {lk : List (List Turn)} {L : List Nat} {i : Nat} (hi : i < ow.length) : ptF ow lk L i < ow.length := ptL_lt hi
theorem goR_step {f : Nat → Nat} {i n k : Nat} {out : List Nat} {last : Nat} (h : k < n) : goR f i (n - k) out last = if f last = i then some out else goR f i (n - (k + 1)) (out ++ [f last]) (f last) := by
  rw [show n - k = (n - (k + 1)) + 1 by omega, goR]
theorem goR_end {f : Nat → Nat} {i n k : Nat} {out : List Nat} {last : Nat} (h : n ≤ k) : goR f i (n - k) out last = none := by
  rw [show n - k = 0 by omega, goR]
theorem concat_at {α : Type} (l : List α) (x : α) : (l ++ [x])[l.length]? = some x := by simp
set_option maxHeartbeats 4000000 in
theorem rring_ok (ow : List Turn) (lk : List (List Turn)) (L : List Nat) (i : Nat) (hv : ValidT ow lk) (hi : i < ow.length) : ACalls Try.prog 73 [trade ow lk, .own 10000 0 ow.length, I i] [(10000, .row true 4 1 ((lfOf ow.length L).map B))] (fun r o => r = rgV ((ringR (ptF ow lk L) ow.length i).getD []) ∧ o = [(10000, .row true 4 1 ((lfOf ow.length L).map B))]) := by
  refine ACalls.enter hΓ Try.func73 rfl (by kernel_rfl) Try.ntmps73 (by rw [Try.results73]) (by simp) (by simp; rfl) ?_
  have hn8 : ow.length ≤ 8 := hv.most
  refine W.regK hΓ [1, 2, 3] (by simp [hn8]; rfl) ?_
  refine W.regK hΓ [1, 2, 3, 7] (by simp [hn8]; rfl) ?_
  refine W.seqk fun K1 hK1 => ?_
  refine W.block ?_
  refine W.loopU (α := List Nat × Nat) [1, 2, 3] [12, 15, 21, 25, 32, 33] [80] (fun z => [(7, .own 80 0 (z.1.length + 1))]) (fun z => [(80, .row true 3 1 ((z.1 ++ [z.2]).map nI))]) (fun z => z.2 < ow.length ∧ z.1.length ≤ ow.length ∧ ringR (ptF ow lk L) ow.length i = goR (ptF ow lk L) i (ow.length - z.1.length) (z.1 ++ [z.2]) z.2) (fun z => ow.length - z.1.length) ([], i) rfl (by simp [hn8]; rfl) (by simp [hn8]; rfl) ?_ ?_ ?_
  ·
    refine Le.fit (by simp [hn8]; rfl) (by rfl) (by rfl) (by rfl) ?_ ?_
    ·
      try (simp [hn8])
      all_goals (
        -- 1 init.tmps
        first | done | omega | (simp_all; done) | (simp_all; omega)
      )
    ·
      try (simp [hn8])
      all_goals (
        -- 2 init.objs
        first | done | omega | (simp_all; done) | (simp_all; omega)
      )
  ·
    -- 3 init.inv
    exact ⟨hi, by simp, rfl⟩
  ·
    intro ⟨out, last⟩ hI0
    simp only [List.cons_append, List.nil_append]
    try dsimp only at hI0
    obtain ⟨hlast, hol, he⟩ := hI0
    have hm1 : (out.length : Int) < (out.length : Int) + 1 := by omega
    have hcat : (List.map nI out ++ [I (last : Int)])[out.length]? = some (I (last : Int)) := by
      have := concat_at (List.map nI out) (I (last : Int)); rwa [List.length_map] at this
    refine W.seqk fun K2 hK2 => ?_
    refine W.regK hΓ [1, 2, 3, 7, 16] (by simp [hn8, hlast, hol, hm1, hcat]; rfl) ?_
    refine W.ite (by simp [hn8, hlast, hol, hm1, hcat]; first | rfl | exact (Bool.not_not _).symm) (fun hc1 => ?_) (fun hc1 => ?_)
    ·
      try simp at hc1
      refine W.skip ?_
      refine thenQ_n (hK2 _ ?_)
      clear hK2 K2
      refine W.block ?_
      refine W.drawT hm 8 [] (deps := [[], [], [], [], [3], [3, 4], [4, 3, 5, 2], [2, 5, 3, 4, 6], [6, 4, 3, 5, 2, 7, 1, 0], [0, 1, 7, 2, 5, 3, 4, 6, 8]]) (by rfl) (by rfl) ?_
      refine WDraw.n hΓ 8 0 rfl (by simp [hn8, hlast, hol, hm1, hcat, hc1]; (try (simp (disch := omega) only [wrap_i64, mul_i64, capOk_of]; (try simp [hn8, hlast, hol, hm1, hcat, hc1]))); exact ⟨rfl, rfl, rfl⟩) rfl ?_
      refine WDraw.done (by simp [hn8, hlast, hol, hm1, hcat, hc1]; rfl) ?_
      refine WOps.call rfl rfl rfl rfl [(10000, 10000)] rfl rfl (by decide) (by simp [hn8, hlast, hol, hm1, hcat, hc1]; first | rfl | exact ⟨rfl, rfl⟩) (by simp [hn8, hlast, hol, hm1, hcat, hc1]; rfl) ?_
      refine CallT.mk (rpoints_ok ow lk L last hv hlast) (by simp [hn8, hlast, hol, hm1, hcat, hc1]) ?_
      refine WOps.norm (by simp [hn8, hlast, hol, hm1, hcat, hc1]; rfl) ?_
      refine WOps.n hΓ 1 (by simp [hn8, hlast, hol, hm1, hcat, hc1]; first | rfl | exact ⟨rfl, rfl⟩) rfl ?_
      refine WOps.endK ?_
      refine W.keep [1, 2, 3, 7, 8] (by simp [hn8, hlast, hol, hm1, hcat, hc1]; rfl) ?_
      refine W.seqk fun K3 hK3 => ?_
      refine W.regK hΓ [1, 2, 3, 7, 8, 28] (by simp [hn8, hlast, hol, hm1, hcat, hc1]; rfl) ?_
      refine W.ite (by simp [hn8, hlast, hol, hm1, hcat, hc1]; first | rfl | exact (Bool.not_not _).symm) (fun hc2 => ?_) (fun hc2 => ?_)
      ·
        try simp at hc2
        refine W.regK hΓ [6] (by simp [hn8, hlast, hol, hm1, hcat, hc1, hc2]; rfl) ?_
        refine W.ret ?_
        refine thenQ_r ?_
        clear hK3 K3
        refine blockQ_r ?_
        refine thenQ_r ?_
        refine blockQ_r ?_
        refine thenQ_r ?_
        clear hK1 K1
        refine EndQ.r true [80] [(10000, 10000)] (by simp [hn8, hlast, hol, hm1, hcat, hc1, hc2]; first | rfl | exact ⟨rfl, rfl⟩) ?_
        -- 4 end
        refine ⟨?_, rfl⟩
        rw [he, goR_step (by omega), if_pos (by omega), List.take_of_length_le (by simp)]; simp
      ·
        try simp at hc2
        refine W.skip ?_
        refine thenQ_n (hK3 _ ?_)
        clear hK3 K3
        refine W.regE hΓ (by simp [hn8, hlast, hol, hm1, hcat, hc1, hc2]; (try (simp (disch := omega) only [wrap_i64, mul_i64, capOk_of]; (try simp [hn8, hlast, hol, hm1, hcat, hc1, hc2]))); rfl) ?_
        refine blockQ_n ?_
        refine ⟨(out ++ [last], ptF ow lk L last), Le.fit (by simp [hn8, hlast, hol, hm1, hcat, hc1, hc2]; rfl) (by rfl) (by rfl) (by rfl) ?_ ?_, ?_, ?_⟩
        ·
          try (simp [hn8, hlast, hol, hm1, hcat, hc1, hc2])
          all_goals (
            -- 5 back.tmps
            first | done | omega | (simp_all; done) | (simp_all; omega)
          )
        ·
          try (simp [hn8, hlast, hol, hm1, hcat, hc1, hc2])
          all_goals (
            -- 6 back.objs
            first | done | omega | (simp_all; done) | (simp_all; omega)
          )
        ·
          -- 7 back.inv
          refine ⟨ptF_lt hlast, by simp; omega, ?_⟩
          rw [he, goR_step (by omega), if_neg (by omega)]; simp
        ·
          -- 8 back.meas
          first | done | omega | (simp_all; done) | (simp_all; omega)
    ·
      try simp at hc1
      refine W.exit ?_
      refine thenQ_e ?_
      clear hK2 K2
      refine thenQ_e ?_
      refine blockQ_s ?_
      refine thenQ_n (hK1 _ ?_)
      clear hK1 K1
      refine W.regK hΓ [6] (by simp [hn8, hlast, hol, hm1, hcat, hc1]; rfl) ?_
      refine W.ret ?_
      refine EndQ.r true [] [(10000, 10000)] (by simp [hn8, hlast, hol, hm1, hcat, hc1]; first | rfl | exact ⟨rfl, rfl⟩) ?_
      -- 9 end
      exact ⟨by rw [he, goR_end (by omega)]; rfl, rfl⟩
theorem all_drop {α : Type} {p : α → Bool} {l : List α} {k : Nat} (h : k < l.length) : (l.drop k).all p = (p l[k] && (l.drop (k + 1)).all p) := by rw [List.drop_eq_getElem_cons h, List.all_cons]
theorem leastB_all {l : List Nat} (h : 0 < l.length) : leastB l = (l.drop 1).all fun y => decide (l[0] ≤ y) := by
  cases l with
  | nil => simp at h
  | cons x xs => rfl
set_option maxHeartbeats 4000000 in
theorem least_ok (l : List Nat) (h0 : 0 < l.length) (hb : l.length ≤ 100000) : ACalls Try.prog 74 [rgV l] [] (fun r o => r = B (leastB l) ∧ o = []) := by
  refine ACalls.enter hΓ Try.func74 rfl (by kernel_rfl) Try.ntmps74 (by rw [Try.results74]) (by simp) (by simp [h0]; rfl) ?_
  refine W.regK hΓ [0] (by simp [h0]; rfl) ?_
  refine W.seqk fun K1 hK1 => ?_
  refine W.regK hΓ [0, 3] (by simp [h0]; rfl) ?_
  refine W.block ?_
  refine W.loopU (α := Nat) [0] [6] [] (fun k => [(3, I k)]) (fun k => []) (fun k => 1 ≤ k ∧ k ≤ l.length ∧ leastB l = (l.drop k).all fun y => decide (l[0] ≤ y)) (fun k => l.length - k) 1 rfl (by simp [h0]; rfl) (by simp [h0]; rfl) ?_ ?_ ?_
  ·
    refine Le.fit (by simp [h0]; rfl) (by rfl) (by rfl) (by rfl) ?_ ?_
    ·
      try (simp [h0])
      all_goals (
        -- 1 init.tmps
        first | done | omega | (simp_all; done) | (simp_all; omega)
      )
    ·
      try (simp [h0])
      all_goals (
        -- 2 init.objs
        first | done | omega | (simp_all; done) | (simp_all; omega)
      )
  ·
    -- 3 init.inv
    exact ⟨Nat.le_refl _, by omega, leastB_all h0⟩
  ·
    intro k hI0
    simp only [List.cons_append, List.nil_append]
    try dsimp only at hI0
    obtain ⟨hk1, hkl, he⟩ := hI0
    refine W.seqk fun K2 hK2 => ?_
    refine W.regK hΓ [0, 3, 7] (by simp [h0, hk1, hkl]; rfl) ?_
    refine W.ite (by simp [h0, hk1, hkl]; first | rfl | exact (Bool.not_not _).symm) (fun hc1 => ?_) (fun hc1 => ?_)
    ·
      try simp at hc1
      refine W.skip ?_
      refine thenQ_n (hK2 _ ?_)
      clear hK2 K2
      refine W.seqk fun K3 hK3 => ?_
      refine W.block ?_
      have hkx : k < l.length := by omega
      refine W.drawT hm 7 [] (deps := [[], [], [1, 0], [0, 1, 2], [], [4], [4, 5], [5, 4, 6, 2, 1, 0, 3]]) (by rfl) (by rfl) ?_
      refine WDraw.n hΓ 7 0 rfl (by simp [h0, hk1, hkl, hc1, hkx]; exact ⟨rfl, rfl, rfl⟩) rfl ?_
      refine WDraw.done (by simp [h0, hk1, hkl, hc1, hkx]; rfl) ?_
      refine WOps.n hΓ 1 (by simp [h0, hk1, hkl, hc1, hkx]; first | rfl | exact ⟨rfl, rfl⟩) rfl ?_
      refine WOps.endK ?_
      refine W.keep [0, 3, 17] (by simp [h0, hk1, hkl, hc1, hkx]; rfl) ?_
      refine W.ite (by simp [h0, hk1, hkl, hc1, hkx]; first | rfl | exact (Bool.not_not _).symm) (fun hc2 => ?_) (fun hc2 => ?_)
      ·
        try simp at hc2
        refine W.regK hΓ [2] (by simp [h0, hk1, hkl, hc1, hkx, hc2]; rfl) ?_
        refine W.ret ?_
        refine blockQ_r ?_
        refine thenQ_r ?_
        clear hK3 K3
        refine thenQ_r ?_
        refine blockQ_r ?_
        refine thenQ_r ?_
        clear hK1 K1
        refine EndQ.r false [] [] (by simp [h0, hk1, hkl, hc1, hkx, hc2]; first | rfl | exact ⟨rfl, rfl⟩) ?_
        -- 4 end
        exact ⟨by rw [he, all_drop hkx, decide_eq_false (by omega), Bool.false_and], rfl⟩
      ·
        try simp at hc2
        refine W.skip ?_
        refine blockQ_n ?_
        refine thenQ_n (hK3 _ ?_)
        clear hK3 K3
        refine W.regE hΓ (by simp [h0, hk1, hkl, hc1, hkx, hc2]; (try (simp (disch := omega) only [wrap_i64, mul_i64, capOk_of]; (try simp [h0, hk1, hkl, hc1, hkx, hc2]))); rfl) ?_
        refine ⟨k + 1, Le.fit (by simp [h0, hk1, hkl, hc1, hkx, hc2]; rfl) (by rfl) (by rfl) (by rfl) ?_ ?_, ?_, ?_⟩
        ·
          try (simp [h0, hk1, hkl, hc1, hkx, hc2])
          all_goals (
            -- 5 back.tmps
            first | done | omega | (simp_all; done) | (simp_all; omega)
          )
        ·
          try (simp [h0, hk1, hkl, hc1, hkx, hc2])
          all_goals (
            -- 6 back.objs
            first | done | omega | (simp_all; done) | (simp_all; omega)
          )
        ·
          -- 7 back.inv
          exact ⟨by omega, by omega, by rw [he, all_drop hkx, decide_eq_true hc2, Bool.true_and]⟩
        ·
          -- 8 back.meas
          first | done | omega | (simp_all; done) | (simp_all; omega)
    ·
      try simp at hc1
      refine W.exit ?_
      refine thenQ_e ?_
      clear hK2 K2
      refine thenQ_e ?_
      refine blockQ_s ?_
      refine thenQ_n (hK1 _ ?_)
      clear hK1 K1
      refine W.regK hΓ [2] (by simp [h0, hk1, hkl, hc1]; rfl) ?_
      refine W.ret ?_
      refine EndQ.r false [] [] (by simp [h0, hk1, hkl, hc1]; first | rfl | exact ⟨rfl, rfl⟩) ?_
      -- 9 end
      exact ⟨by rw [he, List.drop_of_length_le hc1]; rfl, rfl⟩
theorem ringR'_none {f : Nat → Nat} {n i : Nat} (h : (ringR f n i).getD [] = []) (hne : ∀ r, ringR f n i = some r → r ≠ []) : ringR' f n i = none := by
  unfold ringR'
  cases hr : ringR f n i with
  | none => rfl
  | some r => rw [hr] at h; exact absurd h (hne r hr)
theorem goR_ne {f : Nat → Nat} {i : Nat} : ∀ {n : Nat} {out : List Nat} {last : Nat} {r : List Nat}, out ≠ [] → goR f i n out last = some r → r ≠ []
  | 0, _, _, _, _, h => by simp [goR] at h
  | n + 1, out, last, r, ho, h => by
    rw [goR] at h
    split at h
    · cases h; exact ho
    · exact goR_ne (by simp) h
theorem ringR_ne {f : Nat → Nat} {n i : Nat} {r : List Nat} (h : ringR f n i = some r) : r ≠ [] := goR_ne (by simp) h
theorem ringR_of {f : Nat → Nat} {n i x : Nat} {xs : List Nat} (h : (ringR f n i).getD [] = x :: xs) : ringR f n i = some (x :: xs) := by
  cases hr : ringR f n i with
  | none => rw [hr] at h; cases h
  | some r => rw [hr] at h; exact congrArg some h
theorem ringR'_of {f : Nat → Nat} {n i x : Nat} {xs : List Nat} (h : (ringR f n i).getD [] = x :: xs) : ringR' f n i = if leastB (x :: xs) = true then some (x :: xs) else none := by
  unfold ringR'; rw [ringR_of h]
set_option maxHeartbeats 4000000 in
theorem Round_ok (ow : List Turn) (lk : List (List Turn)) (L : List Nat) (hv : ValidT ow lk) (hd : L.Nodup) (hL : ∀ y ∈ L, y < ow.length) : ACalls Try.prog 43 [trade ow lk, .own 10000 0 ow.length] [(10000, .row true 4 1 ((lfOf ow.length L).map B))] (fun r o => r = tabsN (rnd ow lk L ow.length) ∧ o = [(10000, .row true 4 1 ((lfOf ow.length L).map B))]) := by
  refine ACalls.enter hΓ Try.func43 rfl (by kernel_rfl) Try.ntmps43 (by rw [Try.results43]) (by simp) (by simp; rfl) ?_
  have hn8 : ow.length ≤ 8 := hv.most
  have hll := lfOf_length ow.length L
  have qLn := le_of_nodup_lt hd hL
  refine W.regK hΓ [1, 2, 28, 29] (by simp [hn8, hll]; rfl) ?_
  refine W.regK hΓ [1, 2, 5, 28, 29] (by simp [hn8, hll]; rfl) ?_
  refine W.seqk fun K1 hK1 => ?_
  refine W.regK hΓ [1, 2, 5, 6, 28, 29] (by simp [hn8, hll]; rfl) ?_
  refine W.block ?_
  refine W.weaken (Le.ownNil (t := 5) (id := 9000) (ty := 26) (sz := 1) rfl (by simp [hn8, hll])) ?_
  refine W.norm (by simp [hn8, hll, St.ownNil]; rfl) ?_
  refine W.loopU (α := Nat) [1, 2] [11, 23, 25, 29, 33, 34] [9000] (fun i => [(6, I i), (5, .own 9000 0 (rnd ow lk L i).length)]) (fun i => [(9000, .row true 26 1 ((rnd ow lk L i).map rgV))]) (fun i => i ≤ ow.length) (fun i => ow.length - i) 0 rfl (by simp [hn8, hll]; rfl) (by simp [hn8, hll]; rfl) ?_ ?_ ?_
  ·
    refine Le.fit (by simp [hn8, hll]; rfl) (by rfl) (by rfl) (by rfl) ?_ ?_
    ·
      try (simp [hn8, hll])
      all_goals (
        -- 1 init.tmps
        exact rfl
      )
    ·
      try (simp [hn8, hll])
      all_goals (
        -- 2 init.objs
        exact rnd_zero ow lk L
      )
  ·
    -- 3 init.inv
    first | done | omega | (simp_all; done) | (simp_all; omega)
  ·
    intro i hI0
    simp only [List.cons_append, List.nil_append]
    try dsimp only at hI0
    have qrl := rnd_length ow lk L i
    refine W.seqk fun K2 hK2 => ?_
    refine W.regK hΓ [1, 2, 5, 6, 12, 28, 29] (by simp [hn8, hll, hI0]; rfl) ?_
    refine W.ite (by simp [hn8, hll, hI0]; first | rfl | exact (Bool.not_not _).symm) (fun hc1 => ?_) (fun hc1 => ?_)
    ·
      try simp at hc1
      refine W.skip ?_
      refine thenQ_n (hK2 _ ?_)
      clear hK2 K2
      refine W.seqk fun K3 hK3 => ?_
      refine W.block ?_
      refine W.seqk fun K4 hK4 => ?_
      have hlf : (lfOf ow.length L)[i]'(by rw [hll]; omega) = decide (i ∈ L) := lfOf_get _
      refine W.regK hΓ [1, 2, 5, 6, 19, 28, 29] (by simp [hn8, hll, hI0, hc1, hlf]; rfl) ?_
      refine W.ite (by simp [hn8, hll, hI0, hc1, hlf]; first | rfl | exact (Bool.not_not _).symm) (fun hc2 => ?_) (fun hc2 => ?_)
      ·
        try simp at hc2
        refine W.exit ?_
        refine thenQ_e ?_
        clear hK4 K4
        refine blockQ_s ?_
        refine thenQ_n (hK3 _ ?_)
        clear hK3 K3
        refine W.regE hΓ (by simp [hn8, hll, hI0, hc1, hlf, hc2]; (try (simp (disch := omega) only [wrap_i64, mul_i64, capOk_of]; (try simp [hn8, hll, hI0, hc1, hlf, hc2]))); rfl) ?_
        refine ⟨i + 1, Le.fit (by simp [hn8, hll, hI0, hc1, hlf, hc2]; rfl) (by rfl) (by rfl) (by rfl) ?_ ?_, ?_, ?_⟩
        ·
          try (simp [hn8, hll, hI0, hc1, hlf, hc2])
          all_goals (
            -- 4 back.tmps
            rw [rnd_out hc2]
          )
        ·
          try (simp [hn8, hll, hI0, hc1, hlf, hc2])
          all_goals (
            -- 5 back.objs
            rw [rnd_out hc2]
          )
        ·
          -- 6 back.inv
          first | done | omega | (simp_all; done) | (simp_all; omega)
        ·
          -- 7 back.meas
          first | done | omega | (simp_all; done) | (simp_all; omega)
      ·
        try simp at hc2
        refine W.skip ?_
        refine thenQ_n (hK4 _ ?_)
        clear hK4 K4
        refine W.seqR ?_
        refine WOps.n hΓ 3 (by simp [hn8, hll, hI0, hc1, hlf, hc2]; first | rfl | exact ⟨rfl, rfl⟩) rfl ?_
        refine WOps.call rfl rfl rfl rfl [(10000, 10000)] rfl rfl (by decide) (by simp [hn8, hll, hI0, hc1, hlf, hc2]; first | rfl | exact ⟨rfl, rfl⟩) (by simp [hn8, hll, hI0, hc1, hlf, hc2]; rfl) ?_
        refine CallT.mk (rring_ok ow lk L i hv (by omega)) (by simp [hn8, hll, hI0, hc1, hlf, hc2]) ?_
        refine WOps.norm (by simp [hn8, hll, hI0, hc1, hlf, hc2]; rfl) ?_
        refine WOps.n hΓ 1 (by simp [hn8, hll, hI0, hc1, hlf, hc2]; first | rfl | exact ⟨rfl, rfl⟩) rfl ?_
        refine WOps.endK ?_
        refine W.keep [1, 2, 5, 6, 7, 28, 29] (by simp [hn8, hll, hI0, hc1, hlf, hc2]; rfl) ?_
        by_cases hR : (ringR (ptF ow lk L) ow.length i).getD [] = []
        ·
          refine W.seqR ?_
          refine WOps.n hΓ 4 (by simp [hn8, hll, hI0, hc1, hlf, hc2, hR]; first | rfl | exact ⟨rfl, rfl⟩) rfl ?_
          refine WOps.gd rfl rfl (by simp [hn8, hll, hI0, hc1, hlf, hc2, hR]; first | rfl | exact (Bool.not_not _).symm) ?_
          (with_reducible refine WG.isF ?_); refine WGf.mk rfl (by simp [hn8, hll, hI0, hc1, hlf, hc2, hR]; rfl) ?_
          refine WOps.gd rfl rfl (by simp [hn8, hll, hI0, hc1, hlf, hc2, hR]; first | rfl | exact (Bool.not_not _).symm) ?_
          (with_reducible refine WG.isF ?_); refine WGf.mk rfl (by simp [hn8, hll, hI0, hc1, hlf, hc2, hR]; rfl) ?_
          refine WOps.n hΓ 1 (by simp [hn8, hll, hI0, hc1, hlf, hc2, hR]; first | rfl | exact ⟨rfl, rfl⟩) rfl ?_
          refine WOps.endK ?_
          refine W.keep [1, 2, 5, 6, 7, 28, 29, 30] (by simp [hn8, hll, hI0, hc1, hlf, hc2, hR]; rfl) ?_
          refine W.cond (t := false) (by simp [hn8, hll, hI0, hc1, hlf, hc2, hR]) ?_
          simp only [if_true, Bool.false_eq_true, if_false]
          refine W.skip ?_
          refine blockQ_n ?_
          refine thenQ_n (hK3 _ ?_)
          clear hK3 K3
          refine W.regE hΓ (by simp [hn8, hll, hI0, hc1, hlf, hc2, hR]; (try (simp (disch := omega) only [wrap_i64, mul_i64, capOk_of]; (try simp [hn8, hll, hI0, hc1, hlf, hc2, hR]))); rfl) ?_
          refine ⟨i + 1, Le.fit (by simp [hn8, hll, hI0, hc1, hlf, hc2, hR]; rfl) (by rfl) (by rfl) (by rfl) ?_ ?_, ?_, ?_⟩
          ·
            try (simp [hn8, hll, hI0, hc1, hlf, hc2, hR])
            all_goals (
              -- 8 back.tmps
              rw [rnd_none (by rw [← ringR'_eq (ptF_closed ow lk L) hc2 qLn]; exact ringR'_none hR fun r => ringR_ne)]
            )
          ·
            try (simp [hn8, hll, hI0, hc1, hlf, hc2, hR])
            all_goals (
              -- 9 back.objs
              rw [rnd_none (by rw [← ringR'_eq (ptF_closed ow lk L) hc2 qLn]; exact ringR'_none hR fun r => ringR_ne)]
            )
          ·
            -- 10 back.inv
            first | done | omega | (simp_all; done) | (simp_all; omega)
          ·
            -- 11 back.meas
            first | done | omega | (simp_all; done) | (simp_all; omega)
        ·
          obtain ⟨r0, r1, q01⟩ := List.exists_cons_of_ne_nil hR
          have hr01 := q01
          have qlen : r1.length ≤ 99999 := by
            have q1 := ringR_of hr01
            obtain ⟨K, hF, qe⟩ := (ringR_iff (ptF_closed ow lk L) (m := i) (by assumption) qLn).1 q1
            have := hF.le (ptF_closed ow lk L) (by assumption)
            have q2 := congrArg List.length qe
            rw [orb_length] at q2
            simp at q2; omega
          have qle := least_ok (r0 :: r1) (by simp) (by simp; omega)
          simp only [rgV, List.map_cons, nI_def] at qle
          refine W.seqR ?_
          refine WOps.n hΓ 4 (by simp [hn8, hll, hI0, hc1, hlf, hc2, hR, hr01]; first | rfl | exact ⟨rfl, rfl⟩) rfl ?_
          refine WOps.gd rfl rfl (by simp [hn8, hll, hI0, hc1, hlf, hc2, hR, hr01]; first | rfl | exact (Bool.not_not _).symm) ?_
          (with_reducible refine WG.isT ?_); refine WGt.mk hΓ rfl (by simp [hn8, hll, hI0, hc1, hlf, hc2, hR, hr01]; first | rfl | exact ⟨rfl, rfl⟩) (by simp [hn8, hll, hI0, hc1, hlf, hc2, hR, hr01]; rfl) ?_
          refine WOps.gd rfl rfl (by simp [hn8, hll, hI0, hc1, hlf, hc2, hR, hr01]; first | rfl | exact (Bool.not_not _).symm) ?_
          (with_reducible refine WG.isT ?_)
          refine WGt.call rfl rfl rfl [] rfl rfl (by decide) (by simp [hn8, hll, hI0, hc1, hlf, hc2, hR, hr01]; first | rfl | exact ⟨rfl, rfl⟩) (by simp [hn8, hll, hI0, hc1, hlf, hc2, hR, hr01]; rfl) ?_
          refine CallT.mk (qle) (by simp [hn8, hll, hI0, hc1, hlf, hc2, hR, hr01]) ?_
          refine WOps.norm (by simp [hn8, hll, hI0, hc1, hlf, hc2, hR, hr01]; rfl) ?_
          refine WOps.n hΓ 1 (by simp [hn8, hll, hI0, hc1, hlf, hc2, hR, hr01]; first | rfl | exact ⟨rfl, rfl⟩) rfl ?_
          refine WOps.endK ?_
          refine W.keep [1, 2, 5, 6, 7, 28, 29, 30] (by simp [hn8, hll, hI0, hc1, hlf, hc2, hR, hr01]; rfl) ?_
          refine W.ite (by simp [hn8, hll, hI0, hc1, hlf, hc2, hR, hr01]; first | rfl | exact (Bool.not_not _).symm) (fun hc4 => ?_) (fun hc4 => ?_)
          ·
            try simp at hc4
            refine W.regE hΓ (by simp [hn8, hll, hI0, hc1, hlf, hc2, hR, hr01, hc4]; (try (simp (disch := omega) only [wrap_i64, mul_i64, capOk_of]; (try simp [hn8, hll, hI0, hc1, hlf, hc2, hR, hr01, hc4]))); rfl) ?_
            refine blockQ_n ?_
            refine thenQ_n (hK3 _ ?_)
            clear hK3 K3
            refine W.regE hΓ (by simp [hn8, hll, hI0, hc1, hlf, hc2, hR, hr01, hc4]; (try (simp (disch := omega) only [wrap_i64, mul_i64, capOk_of]; (try simp [hn8, hll, hI0, hc1, hlf, hc2, hR, hr01, hc4]))); rfl) ?_
            refine ⟨i + 1, Le.fit (by simp [hn8, hll, hI0, hc1, hlf, hc2, hR, hr01, hc4]; rfl) (by rfl) (by rfl) (by rfl) ?_ ?_, ?_, ?_⟩
            ·
              try (simp [hn8, hll, hI0, hc1, hlf, hc2, hR, hr01, hc4])
              all_goals (
                -- 12 back.tmps
                have q : ringP (ptF ow lk L) ow.length i = some (r0 :: r1) := by rw [← ringR'_eq (ptF_closed ow lk L) hc2 qLn, ringR'_of hr01, if_pos hc4]
                rw [rnd_some hc2 q]; simp
              )
            ·
              try (simp [hn8, hll, hI0, hc1, hlf, hc2, hR, hr01, hc4])
              all_goals (
                -- 13 back.objs
                have q : ringP (ptF ow lk L) ow.length i = some (r0 :: r1) := by rw [← ringR'_eq (ptF_closed ow lk L) hc2 qLn, ringR'_of hr01, if_pos hc4]
                rw [rnd_some hc2 q]; simp
              )
            ·
              -- 14 back.inv
              first | done | omega | (simp_all; done) | (simp_all; omega)
            ·
              -- 15 back.meas
              first | done | omega | (simp_all; done) | (simp_all; omega)
          ·
            try simp at hc4
            refine W.skip ?_
            refine blockQ_n ?_
            refine thenQ_n (hK3 _ ?_)
            clear hK3 K3
            refine W.regE hΓ (by simp [hn8, hll, hI0, hc1, hlf, hc2, hR, hr01, hc4]; (try (simp (disch := omega) only [wrap_i64, mul_i64, capOk_of]; (try simp [hn8, hll, hI0, hc1, hlf, hc2, hR, hr01, hc4]))); rfl) ?_
            refine ⟨i + 1, Le.fit (by simp [hn8, hll, hI0, hc1, hlf, hc2, hR, hr01, hc4]; rfl) (by rfl) (by rfl) (by rfl) ?_ ?_, ?_, ?_⟩
            ·
              try (simp [hn8, hll, hI0, hc1, hlf, hc2, hR, hr01, hc4])
              all_goals (
                -- 16 back.tmps
                have q : ringP (ptF ow lk L) ow.length i = none := by rw [← ringR'_eq (ptF_closed ow lk L) hc2 qLn, ringR'_of hr01, if_neg (by simp [hc4])]
                rw [rnd_none q]
              )
            ·
              try (simp [hn8, hll, hI0, hc1, hlf, hc2, hR, hr01, hc4])
              all_goals (
                -- 17 back.objs
                have q : ringP (ptF ow lk L) ow.length i = none := by rw [← ringR'_eq (ptF_closed ow lk L) hc2 qLn, ringR'_of hr01, if_neg (by simp [hc4])]
                rw [rnd_none q]
              )
            ·
              -- 18 back.inv
              first | done | omega | (simp_all; done) | (simp_all; omega)
            ·
              -- 19 back.meas
              first | done | omega | (simp_all; done) | (simp_all; omega)
    ·
      try simp at hc1
      refine W.exit ?_
      refine thenQ_e ?_
      clear hK2 K2
      refine thenQ_e ?_
      refine blockQ_s ?_
      refine thenQ_n (hK1 _ ?_)
      clear hK1 K1
      refine W.regK hΓ [4] (by simp [hn8, hll, hI0, hc1]; rfl) ?_
      refine W.ret ?_
      refine EndQ.r true [9000] [(10000, 10000)] (by simp [hn8, hll, hI0, hc1]; first | rfl | exact ⟨rfl, rfl⟩) ?_
      -- 20 end
      obtain rfl : i = ow.length := by omega
      exact ⟨rfl, rfl⟩
end Go.Sim
