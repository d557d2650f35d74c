/- The program's rings and swap. -/
import Derived.Test.YtggbbldoopfejaaVe
import Derived.Test.YtggbbldoopfejaaPb
namespace Go.Sim
open Go.Proofs Go.Plain
set_option maxRecDepth 100000
set_option linter.unusedSimpArgs false
attribute [-simp] List.map_set List.map_take List.map_drop
attribute [local simp] take_map' drop_map'
abbrev shI : Value := .int .i64 0
/-- at whom a trader points: its number, its own turn, what it likes -/
def ptL (ow : List Turn) (L : List Nat) (i : Nat) (own : Turn) : List Turn → Nat
  | [] => i
  | x :: r => if x = own then i else if x ∈ ow ∧ ow.idxOf x ∈ L then ow.idxOf x else ptL ow L i own r
theorem ptL_at {ow : List Turn} {L : List Nat} {i : Nat} {own : Turn} {l : List Turn} {k : Nat} (h : k < l.length) : ptL ow L i own (l.drop k) = if l[k] = own then i else if l[k] ∈ ow ∧ ow.idxOf l[k] ∈ L then ow.idxOf l[k] else ptL ow L i own (l.drop (k + 1)) := by
  rw [List.drop_eq_getElem_cons h, ptL]
set_option maxHeartbeats 4000000 in
theorem points_ok (ow : List Turn) (lk : List (List Turn)) (L : List Nat) (i : Nat) (hi : i < ow.length) (hk : i < lk.length) (ho : ow.length ≤ 8) (hv : ∀ x ∈ lk[i], validT x = true) (h16 : lk[i].length ≤ 16) : ACalls Try.prog 75 [trade ow lk, .map 10000, .map 10001, I i] [(10000, .mp shT (ownE ow)), (10001, .mp shI (leftE L))] (fun r o => r = I (ptL ow L i ow[i] lk[i] : Nat) ∧ o = [(10000, .mp shT (ownE ow)), (10001, .mp shI (leftE L))]) := by
  refine ACalls.enter hΓ Try.func75 rfl (by kernel_rfl) Try.ntmps75 (by rw [Try.results75]) (by simp) (by simp [hi, hk]; rfl) ?_
  refine W.regK hΓ [1, 2, 3, 4, 38, 39, 40] (by simp [hi, hk]; rfl) ?_
  refine W.seqk fun K1 hK1 => ?_
  refine W.regK hΓ [1, 2, 3, 4, 17, 18, 19, 38, 39, 40] (by simp [hi, hk]; rfl) ?_
  refine W.block ?_
  refine W.loopU (α := Nat) [1, 2, 3, 4, 17, 18] [10] [] (fun k => [(19, I k)]) (fun k => []) (fun k => k ≤ lk[i].length ∧ ptL ow L i ow[i] lk[i] = ptL ow L i ow[i] (lk[i].drop k)) (fun k => lk[i].length - k) 0 rfl (by simp [hi, hk]; rfl) (by simp [hi, hk]; rfl) ?_ ?_ ?_
  ·
    refine Le.fit (by simp [hi, hk]; rfl) (by rfl) (by rfl) (by rfl) ?_ ?_
    ·
      try (simp [hi, hk])
      all_goals (
        -- 1 init.tmps
        first | done | omega | (simp_all; done) | (simp_all; omega)
      )
    ·
      try (simp [hi, hk])
      all_goals (
        -- 2 init.objs
        first | done | omega | (simp_all; done) | (simp_all; omega)
      )
  ·
    -- 3 init.inv
    first | done | omega | (simp_all; done) | (simp_all; omega)
  ·
    intro k hI0
    simp only [List.cons_append, List.nil_append]
    try dsimp only at hI0
    obtain ⟨hkl, he⟩ := hI0
    refine W.regK hΓ [1, 2, 3, 4, 17, 18, 19, 20, 38, 39, 40] (by simp [hi, hk, hkl]; rfl) ?_
    refine W.seqk fun K2 hK2 => ?_
    refine W.ite (by simp [hi, hk, hkl]; first | rfl | exact (Bool.not_not _).symm) (fun hc1 => ?_) (fun hc1 => ?_)
    ·
      try simp at hc1
      refine W.skip ?_
      refine thenQ_n (hK2 _ ?_)
      clear hK2 K2
      refine W.seqk fun K3 hK3 => ?_
      refine W.block ?_
      refine W.regK hΓ [1, 2, 3, 4, 10, 17, 18, 19, 38, 39, 40] (by simp [hi, hk, hkl, hc1]; rfl) ?_
      refine W.seqk fun K4 hK4 => ?_
      refine W.drawT hm 6 [] (deps := [[], [], [1], [], [3, 1, 2], [2, 1, 3, 4], [4, 3, 1, 2, 5, 0]]) (by rfl) (by rfl) ?_
      refine WDraw.n hΓ 6 0 rfl (by simp [hi, hk, hkl, hc1]; exact ⟨rfl, rfl, rfl⟩) rfl ?_
      refine WDraw.done (by simp [hi, hk, hkl, hc1]; rfl) ?_
      refine WOps.n hΓ 1 (by simp [hi, hk, hkl, hc1]; first | rfl | exact ⟨rfl, rfl⟩) rfl ?_
      refine WOps.endK ?_
      refine W.keep [1, 2, 3, 4, 10, 17, 18, 19, 29, 38, 39, 40] (by simp [hi, hk, hkl, hc1]; rfl) ?_
      refine W.ite (by simp [hi, hk, hkl, hc1]; first | rfl | exact (Bool.not_not _).symm) (fun hc2 => ?_) (fun hc2 => ?_)
      ·
        try simp at hc2
        refine W.exit ?_
        refine thenQ_e ?_
        clear hK4 K4
        refine blockQ_d rfl ?_
        refine thenQ_e ?_
        clear hK3 K3
        refine thenQ_e ?_
        refine blockQ_s ?_
        refine thenQ_n (hK1 _ ?_)
        clear hK1 K1
        refine W.regK hΓ [8] (by simp [hi, hk, hkl, hc1, hc2]; rfl) ?_
        refine W.ret ?_
        refine EndQ.r false [] [(10000, 10000), (10001, 10001)] (by simp [hi, hk, hkl, hc1, hc2]; first | rfl | exact ⟨rfl, rfl⟩) ?_
        -- 4 end
        refine ⟨congrArg (fun n : Nat => I (n : Int)) ?_, rfl⟩
        rw [he, ptL_at hc1, if_pos hc2]
      ·
        try simp at hc2
        refine W.skip ?_
        refine thenQ_n (hK4 _ ?_)
        clear hK4 K4
        by_cases hmem : lk[i][k] ∈ ow
        ·
          have hix : ow.idxOf lk[i][k] < ow.length := List.idxOf_lt_length_iff.2 hmem
          have hw3 : (Lit.int .i64 ((ow.idxOf lk[i][k] : Nat) : Int)).wf = true := wfI (by omega) (by omega)
          have hgl : getM (.int .i64 ((ow.idxOf lk[i][k] : Nat) : Int)) (leftE L) = if ow.idxOf lk[i][k] ∈ L then some (B true) else none := getM_left _ L
          have hr := validT_range (hv _ (List.getElem_mem hc1))
          have hw1 : (Lit.int .i64 lk[i][k].1).wf = true := wfI (by omega) (by omega)
          have hw2 : (Lit.int .i64 lk[i][k].2).wf = true := wfI (by omega) (by omega)
          have hgm : getM (.agg #[.int .i64 lk[i][k].1, .int .i64 lk[i][k].2]) (ownEk 0 ow) = if lk[i][k] ∈ ow then some (I ((0 + ow.idxOf lk[i][k] : Nat) : Int)) else none := getM_own lk[i][k] ow 0
          refine W.regK hΓ [1, 2, 3, 4, 11, 12, 17, 18, 19, 38, 39, 40] (by simp [hi, hk, hkl, hc1, hc2, hmem, hix, hw3, hgl, hr, hw1, hw2, hgm]; rfl) ?_
          by_cases hL : ow.idxOf lk[i][k] ∈ L
          ·
            refine W.seqR ?_
            refine WOps.n hΓ 2 (by simp [hi, hk, hkl, hc1, hc2, hmem, hix, hw3, hgl, hr, hw1, hw2, hgm, hL]; first | rfl | exact ⟨rfl, rfl⟩) rfl ?_
            refine WOps.gd rfl rfl (by simp [hi, hk, hkl, hc1, hc2, hmem, hix, hw3, hgl, hr, hw1, hw2, hgm, hL]; first | rfl | exact (Bool.not_not _).symm) ?_
            (with_reducible refine WG.isT ?_); refine WGt.mk hΓ rfl (by simp [hi, hk, hkl, hc1, hc2, hmem, hix, hw3, hgl, hr, hw1, hw2, hgm, hL]; first | rfl | exact ⟨rfl, rfl⟩) (by simp [hi, hk, hkl, hc1, hc2, hmem, hix, hw3, hgl, hr, hw1, hw2, hgm, hL]; rfl) ?_
            refine WOps.gd rfl rfl (by simp [hi, hk, hkl, hc1, hc2, hmem, hix, hw3, hgl, hr, hw1, hw2, hgm, hL]; first | rfl | exact (Bool.not_not _).symm) ?_
            (with_reducible refine WG.isT ?_); refine WGt.mk hΓ rfl (by simp [hi, hk, hkl, hc1, hc2, hmem, hix, hw3, hgl, hr, hw1, hw2, hgm, hL]; first | rfl | exact ⟨rfl, rfl⟩) (by simp [hi, hk, hkl, hc1, hc2, hmem, hix, hw3, hgl, hr, hw1, hw2, hgm, hL]; rfl) ?_
            refine WOps.gd rfl rfl (by simp [hi, hk, hkl, hc1, hc2, hmem, hix, hw3, hgl, hr, hw1, hw2, hgm, hL]; first | rfl | exact (Bool.not_not _).symm) ?_
            (with_reducible refine WG.isT ?_); refine WGt.mk hΓ rfl (by simp [hi, hk, hkl, hc1, hc2, hmem, hix, hw3, hgl, hr, hw1, hw2, hgm, hL]; first | rfl | exact ⟨rfl, rfl⟩) (by simp [hi, hk, hkl, hc1, hc2, hmem, hix, hw3, hgl, hr, hw1, hw2, hgm, hL]; rfl) ?_
            refine WOps.n hΓ 1 (by simp [hi, hk, hkl, hc1, hc2, hmem, hix, hw3, hgl, hr, hw1, hw2, hgm, hL]; first | rfl | exact ⟨rfl, rfl⟩) rfl ?_
            refine WOps.endK ?_
            refine W.keep [1, 2, 3, 4, 11, 17, 18, 19, 38, 39, 40, 41] (by simp [hi, hk, hkl, hc1, hc2, hmem, hix, hw3, hgl, hr, hw1, hw2, hgm, hL]; rfl) ?_
            refine W.cond (t := true) (by simp [hi, hk, hkl, hc1, hc2, hmem, hix, hw3, hgl, hr, hw1, hw2, hgm, hL]) ?_
            simp only [if_true, Bool.false_eq_true, if_false]
            refine W.regK hΓ [8] (by simp [hi, hk, hkl, hc1, hc2, hmem, hix, hw3, hgl, hr, hw1, hw2, hgm, hL]; rfl) ?_
            refine W.ret ?_
            refine blockQ_r ?_
            refine thenQ_r ?_
            clear hK3 K3
            refine thenQ_r ?_
            refine blockQ_r ?_
            refine thenQ_r ?_
            clear hK1 K1
            refine EndQ.r false [] [(10000, 10000), (10001, 10001)] (by simp [hi, hk, hkl, hc1, hc2, hmem, hix, hw3, hgl, hr, hw1, hw2, hgm, hL]; first | rfl | exact ⟨rfl, rfl⟩) ?_
            -- 5 end
            refine ⟨congrArg (fun n : Nat => I (n : Int)) ?_, rfl⟩
            rw [he, ptL_at hc1, if_neg hc2, if_pos ⟨hmem, hL⟩]
          ·
            refine W.seqR ?_
            refine WOps.n hΓ 2 (by simp [hi, hk, hkl, hc1, hc2, hmem, hix, hw3, hgl, hr, hw1, hw2, hgm, hL]; first | rfl | exact ⟨rfl, rfl⟩) rfl ?_
            refine WOps.gd rfl rfl (by simp [hi, hk, hkl, hc1, hc2, hmem, hix, hw3, hgl, hr, hw1, hw2, hgm, hL]; first | rfl | exact (Bool.not_not _).symm) ?_
            (with_reducible refine WG.isT ?_); refine WGt.mk hΓ rfl (by simp [hi, hk, hkl, hc1, hc2, hmem, hix, hw3, hgl, hr, hw1, hw2, hgm, hL]; first | rfl | exact ⟨rfl, rfl⟩) (by simp [hi, hk, hkl, hc1, hc2, hmem, hix, hw3, hgl, hr, hw1, hw2, hgm, hL]; rfl) ?_
            refine WOps.gd rfl rfl (by simp [hi, hk, hkl, hc1, hc2, hmem, hix, hw3, hgl, hr, hw1, hw2, hgm, hL]; first | rfl | exact (Bool.not_not _).symm) ?_
            (with_reducible refine WG.isT ?_); refine WGt.mk hΓ rfl (by simp [hi, hk, hkl, hc1, hc2, hmem, hix, hw3, hgl, hr, hw1, hw2, hgm, hL]; first | rfl | exact ⟨rfl, rfl⟩) (by simp [hi, hk, hkl, hc1, hc2, hmem, hix, hw3, hgl, hr, hw1, hw2, hgm, hL]; rfl) ?_
            refine WOps.gd rfl rfl (by simp [hi, hk, hkl, hc1, hc2, hmem, hix, hw3, hgl, hr, hw1, hw2, hgm, hL]; first | rfl | exact (Bool.not_not _).symm) ?_
            (with_reducible refine WG.isT ?_); refine WGt.mk hΓ rfl (by simp [hi, hk, hkl, hc1, hc2, hmem, hix, hw3, hgl, hr, hw1, hw2, hgm, hL]; first | rfl | exact ⟨rfl, rfl⟩) (by simp [hi, hk, hkl, hc1, hc2, hmem, hix, hw3, hgl, hr, hw1, hw2, hgm, hL]; rfl) ?_
            refine WOps.n hΓ 1 (by simp [hi, hk, hkl, hc1, hc2, hmem, hix, hw3, hgl, hr, hw1, hw2, hgm, hL]; first | rfl | exact ⟨rfl, rfl⟩) rfl ?_
            refine WOps.endK ?_
            refine W.keep [1, 2, 3, 4, 11, 17, 18, 19, 38, 39, 40, 41] (by simp [hi, hk, hkl, hc1, hc2, hmem, hix, hw3, hgl, hr, hw1, hw2, hgm, hL]; rfl) ?_
            refine W.cond (t := false) (by simp [hi, hk, hkl, hc1, hc2, hmem, hix, hw3, hgl, hr, hw1, hw2, hgm, hL]) ?_
            simp only [if_true, Bool.false_eq_true, if_false]
            refine W.skip ?_
            refine blockQ_n ?_
            refine thenQ_n (hK3 _ ?_)
            clear hK3 K3
            refine W.regE hΓ (by simp [hi, hk, hkl, hc1, hc2, hmem, hix, hw3, hgl, hr, hw1, hw2, hgm, hL]; (try (simp (disch := omega) only [wrap_i64, mul_i64, capOk_of]; (try simp [hi, hk, hkl, hc1, hc2, hmem, hix, hw3, hgl, hr, hw1, hw2, hgm, hL]))); rfl) ?_
            refine ⟨k + 1, Le.fit (by simp [hi, hk, hkl, hc1, hc2, hmem, hix, hw3, hgl, hr, hw1, hw2, hgm, hL]; rfl) (by rfl) (by rfl) (by rfl) ?_ ?_, ?_, ?_⟩
            ·
              try (simp [hi, hk, hkl, hc1, hc2, hmem, hix, hw3, hgl, hr, hw1, hw2, hgm, hL])
              all_goals (
                -- 6 back.tmps
                first | done | omega | (simp_all; done) | (simp_all; omega)
              )
            ·
              try (simp [hi, hk, hkl, hc1, hc2, hmem, hix, hw3, hgl, hr, hw1, hw2, hgm, hL])
              all_goals (
                -- 7 back.objs
                first | done | omega | (simp_all; done) | (simp_all; omega)
              )
            ·
              -- 8 back.inv
              exact ⟨by omega, by rw [he, ptL_at hc1, if_neg hc2, if_neg (by simp_all)]⟩
            ·
              -- 9 back.meas
              first | done | omega | (simp_all; done) | (simp_all; omega)
        ·
          have hr := validT_range (hv _ (List.getElem_mem hc1))
          have hw1 : (Lit.int .i64 lk[i][k].1).wf = true := wfI (by omega) (by omega)
          have hw2 : (Lit.int .i64 lk[i][k].2).wf = true := wfI (by omega) (by omega)
          have hgm : getM (.agg #[.int .i64 lk[i][k].1, .int .i64 lk[i][k].2]) (ownEk 0 ow) = if lk[i][k] ∈ ow then some (I ((0 + ow.idxOf lk[i][k] : Nat) : Int)) else none := getM_own lk[i][k] ow 0
          refine W.regK hΓ [1, 2, 3, 4, 11, 12, 17, 18, 19, 38, 39, 40] (by simp [hi, hk, hkl, hc1, hc2, hmem, hr, hw1, hw2, hgm]; rfl) ?_
          refine W.seqR ?_
          refine WOps.n hΓ 2 (by simp [hi, hk, hkl, hc1, hc2, hmem, hr, hw1, hw2, hgm]; first | rfl | exact ⟨rfl, rfl⟩) rfl ?_
          refine WOps.gd rfl rfl (by simp [hi, hk, hkl, hc1, hc2, hmem, hr, hw1, hw2, hgm]; first | rfl | exact (Bool.not_not _).symm) ?_
          (with_reducible refine WG.isF ?_); refine WGf.mk rfl (by simp [hi, hk, hkl, hc1, hc2, hmem, hr, hw1, hw2, hgm]; rfl) ?_
          refine WOps.gd rfl rfl (by simp [hi, hk, hkl, hc1, hc2, hmem, hr, hw1, hw2, hgm]; first | rfl | exact (Bool.not_not _).symm) ?_
          (with_reducible refine WG.isF ?_); refine WGf.mk rfl (by simp [hi, hk, hkl, hc1, hc2, hmem, hr, hw1, hw2, hgm]; rfl) ?_
          refine WOps.gd rfl rfl (by simp [hi, hk, hkl, hc1, hc2, hmem, hr, hw1, hw2, hgm]; first | rfl | exact (Bool.not_not _).symm) ?_
          (with_reducible refine WG.isF ?_); refine WGf.mk rfl (by simp [hi, hk, hkl, hc1, hc2, hmem, hr, hw1, hw2, hgm]; rfl) ?_
          refine WOps.n hΓ 1 (by simp [hi, hk, hkl, hc1, hc2, hmem, hr, hw1, hw2, hgm]; first | rfl | exact ⟨rfl, rfl⟩) rfl ?_
          refine WOps.endK ?_
          refine W.keep [1, 2, 3, 4, 11, 17, 18, 19, 38, 39, 40, 41] (by simp [hi, hk, hkl, hc1, hc2, hmem, hr, hw1, hw2, hgm]; rfl) ?_
          refine W.cond (t := false) (by simp [hi, hk, hkl, hc1, hc2, hmem, hr, hw1, hw2, hgm]) ?_
          simp only [if_true, Bool.false_eq_true, if_false]
          refine W.skip ?_
          refine blockQ_n ?_
          refine thenQ_n (hK3 _ ?_)
          clear hK3 K3
          refine W.regE hΓ (by simp [hi, hk, hkl, hc1, hc2, hmem, hr, hw1, hw2, hgm]; (try (simp (disch := omega) only [wrap_i64, mul_i64, capOk_of]; (try simp [hi, hk, hkl, hc1, hc2, hmem, hr, hw1, hw2, hgm]))); rfl) ?_
          refine ⟨k + 1, Le.fit (by simp [hi, hk, hkl, hc1, hc2, hmem, hr, hw1, hw2, hgm]; rfl) (by rfl) (by rfl) (by rfl) ?_ ?_, ?_, ?_⟩
          ·
            try (simp [hi, hk, hkl, hc1, hc2, hmem, hr, hw1, hw2, hgm])
            all_goals (
              -- 10 back.tmps
              first | done | omega | (simp_all; done) | (simp_all; omega)
            )
          ·
            try (simp [hi, hk, hkl, hc1, hc2, hmem, hr, hw1, hw2, hgm])
            all_goals (
              -- 11 back.objs
              first | done | omega | (simp_all; done) | (simp_all; omega)
            )
          ·
            -- 12 back.inv
            exact ⟨by omega, by rw [he, ptL_at hc1, if_neg hc2, if_neg (by simp_all)]⟩
          ·
            -- 13 back.meas
            first | done | omega | (simp_all; done) | (simp_all; omega)
    ·
      try simp at hc1
      refine W.exit ?_
      refine thenQ_e ?_
      clear hK2 K2
      refine thenQ_e ?_
      refine blockQ_s ?_
      refine thenQ_n (hK1 _ ?_)
      clear hK1 K1
      refine W.regK hΓ [8] (by simp [hi, hk, hkl, hc1]; rfl) ?_
      refine W.ret ?_
      refine EndQ.r false [] [(10000, 10000), (10001, 10001)] (by simp [hi, hk, hkl, hc1]; first | rfl | exact ⟨rfl, rfl⟩) ?_
      -- 14 end
      refine ⟨congrArg (fun n : Nat => I (n : Int)) ?_, rfl⟩
      rw [he, List.drop_of_length_le hc1]; rfl
/-- whole numbers as values -/
def nI (n : Nat) : AV := I (n : Int)
theorem nI_def (n : Nat) : nI n = I (n : Int) := rfl
attribute [simp] nI_def
abbrev rgV (l : List Nat) : AV := .imm (l.map nI)
abbrev tabsN (l : List (List Nat)) : AV := .imm (l.map rgV)
theorem map_nI (l : List Nat) : l.map nI = (l.map fun (n : Nat) => (n : Int)).map I := by simp [Function.comp_def]
theorem ContainsN_ok (l : List Nat) (n : Nat) : ACalls Try.prog 63 [.imm (l.map nI), I (n : Int)] [] (fun r o => r = B (decide (n ∈ l)) ∧ o = []) := by
  have h := ContainsI_ok (l.map fun (n : Nat) => (n : Int)) n
  have e : decide ((n : Int) ∈ l.map fun (n : Nat) => (n : Int)) = decide (n ∈ l) := by
    rw [decide_eq_decide]; simp
    exact ⟨fun ⟨a, h, e⟩ => by rwa [Int.ofNat.inj e] at h, fun h => ⟨n, h, rfl⟩⟩
  rw [e] at h
  rw [map_nI]; exact h
/-- at whom they point -/
def ptF (ow : List Turn) (lk : List (List Turn)) (L : List Nat) (i : Nat) : Nat := ptL ow L i (nth ow i) (nth lk i)
theorem ptL_mem {ow : List Turn} {L : List Nat} {i : Nat} (hi : i ∈ L) {own : Turn} : ∀ {l : List Turn}, ptL ow L i own l ∈ L
  | [] => hi
  | x :: r => by
    rw [ptL]
    split
    · exact hi
    · split
      · rename_i h; exact h.2
      · exact ptL_mem hi
theorem ptF_closed (ow : List Turn) (lk : List (List Turn)) (L : List Nat) : Closed (ptF ow lk L) L := fun _ hi => ptL_mem hi
theorem ptF_eq {ow : List Turn} {lk : List (List Turn)} {L : List Nat} {i : Nat} (h1 : i < ow.length) (h2 : i < lk.length) : ptL ow L i ow[i] lk[i] = ptF ow lk L i := by rw [ptF, nth_get h1, nth_get h2]
theorem points_ok' (ow : List Turn) (lk : List (List Turn)) (L : List Nat) (i : Nat) (hv : ValidT ow lk) (hi : i < ow.length) : ACalls Try.prog 75 [trade ow lk, .map 10000, .map 10001, I i] [(10000, .mp shT (ownE ow)), (10001, .mp shI (leftE L))] (fun r o => r = I (ptF ow lk L i : Nat) ∧ o = [(10000, .mp shT (ownE ow)), (10001, .mp shI (leftE L))]) := by
  have hk : i < lk.length := by rw [hv.same]; exact hi
  have := points_ok ow lk L i hi hk hv.most (hv.likes _ (List.getElem_mem hk)).1.2 (hv.likes _ (List.getElem_mem hk)).2
  rwa [ptF_eq hi hk] at this
/-- the rings of a round, from the traders below i on -/
def rnd (ow : List Turn) (lk : List (List Turn)) (L : List Nat) (i : Nat) : List (List Nat) := (List.range i).filterMap fun i => if i ∈ L then ringP (ptF ow lk L) ow.length i else none
theorem rnd_zero (ow : List Turn) (lk : List (List Turn)) (L : List Nat) : rnd ow lk L 0 = [] := rfl
theorem rnd_out {ow : List Turn} {lk : List (List Turn)} {L : List Nat} {i : Nat} (h : i ∉ L) : rnd ow lk L (i + 1) = rnd ow lk L i := by
  simp [rnd, List.range_succ, h]
theorem rnd_none {ow : List Turn} {lk : List (List Turn)} {L : List Nat} {i : Nat} (h : ringP (ptF ow lk L) ow.length i = none) : rnd ow lk L (i + 1) = rnd ow lk L i := by
  simp [rnd, List.range_succ, h]
theorem rnd_some {ow : List Turn} {lk : List (List Turn)} {L : List Nat} {i : Nat} {r : List Nat} (hi : i ∈ L) (h : ringP (ptF ow lk L) ow.length i = some r) : rnd ow lk L (i + 1) = rnd ow lk L i ++ [r] := by
  simp [rnd, List.range_succ, hi, h]
theorem rnd_length (ow : List Turn) (lk : List (List Turn)) (L : List Nat) (i : Nat) : (rnd ow lk L i).length ≤ i := by
  have := List.length_filterMap_le (fun i => if i ∈ L then ringP (ptF ow lk L) ow.length i else none) (List.range i)
  simpa [rnd] using this
theorem rnd_mem {ow : List Turn} {lk : List (List Turn)} {L : List Nat} (hd : L.Nodup) (hL : ∀ y ∈ L, y < ow.length) {r : List Nat} (hr : r ∈ rnd ow lk L ow.length) : ∀ x ∈ r, x ∈ L := by
  obtain ⟨m, hm, h⟩ := (mem_roundF (ptF_closed ow lk L) (le_of_nodup_lt hd hL) hL).1 (show r ∈ roundF (ptF ow lk L) L ow.length from hr)
  exact (h.mem (ptF_closed ow lk L) hm).1
theorem rnd_step {ow : List Turn} {lk : List (List Turn)} {L : List Nat} (hd : L.Nodup) (hL : ∀ y ∈ L, y < ow.length) (hne : 0 < L.length) : (eraseAll (rnd ow lk L ow.length).flatten L).length < L.length :=
  round_lt (ptF_closed ow lk L) hd hL (by intro h; simp [h] at hne) (le_of_nodup_lt hd hL)
theorem rings_next {ow : List Turn} {lk : List (List Turn)} {L : List Nat} (hd : L.Nodup) (hL : ∀ y ∈ L, y < ow.length) (hne : 0 < L.length) : ringsF (ptF ow lk) ow.length L.length L = rnd ow lk L ow.length ++ ringsF (ptF ow lk) ow.length (eraseAll (rnd ow lk L ow.length).flatten L).length (eraseAll (rnd ow lk L ow.length).flatten L) := by
  have hlt := rnd_step (lk := lk) hd hL hne
  obtain ⟨k, hk⟩ : ∃ k, L.length = k + 1 := ⟨L.length - 1, by omega⟩
  have hd' := eraseAll_nodup (l := (rnd ow lk L ow.length).flatten) hd
  have hL' : ∀ y ∈ eraseAll (rnd ow lk L ow.length).flatten L, y < ow.length := fun y hy => hL y ((eraseAll_sub _ _).subset hy)
  rw [ringsF_fuel (ptF_closed ow lk) (a := (eraseAll (rnd ow lk L ow.length).flatten L).length) (b := k) hd' hL' (Nat.le_refl _) (by omega), hk, ringsF, if_neg (by intro h; simp [h] at hne)]
  rfl
theorem rnd_ring_le {ow : List Turn} {lk : List (List Turn)} {L : List Nat} (hd : L.Nodup) (hL : ∀ y ∈ L, y < ow.length) {r : List Nat} (hr : r ∈ rnd ow lk L ow.length) : r.length ≤ ow.length := by
  obtain ⟨m, hm, k, hF, _, e⟩ := (mem_roundF (ptF_closed ow lk L) (le_of_nodup_lt hd hL) hL).1 (show r ∈ roundF (ptF ow lk L) L ow.length from hr)
  rw [e, orb_length]
  exact Nat.le_trans (hF.le (ptF_closed ow lk L) hm) (le_of_nodup_lt hd hL)
theorem goP_stop {f : Nat → Nat} {i n a : Nat} {ring : List Nat} (hn : ring.length ≤ n) (h : a ≠ i) (h2 : a < i ∨ a ∈ ring) : goP f i (n + 1 - ring.length) ring a = none := by
  rw [show n + 1 - ring.length = (n - ring.length) + 1 by omega, goP, if_neg h, if_pos h2]
theorem goP_end {f : Nat → Nat} {i n : Nat} {ring : List Nat} (hn : ring.length ≤ n) : goP f i (n + 1 - ring.length) ring i = some ring := by
  rw [show n + 1 - ring.length = (n - ring.length) + 1 by omega, goP, if_pos rfl]
theorem goP_on {f : Nat → Nat} {i n a : Nat} {ring : List Nat} (hn : ring.length ≤ n) (h : a ≠ i) (h2 : ¬ (a < i ∨ a ∈ ring)) : goP f i (n + 1 - ring.length) ring a = goP f i (n + 1 - (ring ++ [a]).length) (ring ++ [a]) (f a) := by
  rw [show n + 1 - ring.length = (n - ring.length) + 1 by omega, goP, if_neg h, if_neg h2, List.length_append]
  congr 1; simp
attribute [local simp] leftE_length
set_option maxHeartbeats 4000000 in
theorem rings_ok (ow : List Turn) (lk : List (List Turn)) (hv : ValidT ow lk) : ACalls Try.prog 51 [trade ow lk] [] (fun r o => r = tabsN (allRings (ptF ow lk) ow.length) ∧ o = []) := by
  refine ACalls.enter hΓ Try.func51 rfl (by kernel_rfl) Try.ntmps51 (by rw [Try.results51]) (by simp) (by simp; rfl) ?_
  have hn8 : ow.length ≤ 8 := hv.most
  refine W.regK hΓ [1, 59, 60, 61] (by simp [hn8]; rfl) ?_
  refine W.seqR ?_
  refine WOps.n hΓ 1 (by simp [hn8]; first | rfl | exact ⟨rfl, rfl⟩) rfl ?_
  refine WOps.call rfl rfl rfl rfl [] rfl rfl (by decide) (by simp [hn8]; first | rfl | exact ⟨rfl, rfl⟩) (by simp [hn8]; rfl) ?_
  refine CallT.mk (owners_ok ow lk hv.owns hv.most) (by simp [hn8]) ?_
  refine WOps.norm (by simp [hn8]; rfl) ?_
  refine WOps.n hΓ 1 (by simp [hn8]; first | rfl | exact ⟨rfl, rfl⟩) rfl ?_
  refine WOps.endK ?_
  refine W.keep [1, 3, 59, 60, 61] (by simp [hn8]; rfl) ?_
  refine W.regK hΓ [1, 3, 4, 59, 60, 61] (by simp [hn8]; rfl) ?_
  refine W.seqk fun K1 hK1 => ?_
  refine W.regK hΓ [1, 3, 4, 20, 21, 59, 60, 61] (by simp [hn8]; rfl) ?_
  refine W.block ?_
  refine W.loopU (α := Nat) [1, 3, 4, 20, 59, 60, 61] [] [136] (fun k => [(21, I k)]) (fun k => [(136, .mp shI (leftE (List.range k)))]) (fun k => k ≤ ow.length) (fun k => ow.length - k) 0 rfl (by simp [hn8]; rfl) (by simp [hn8]; rfl) ?_ ?_ ?_
  ·
    refine Le.fit (by simp [hn8]; rfl) (by rfl) (by rfl) (by rfl) ?_ ?_
    ·
      try (simp [hn8])
      all_goals (
        -- 1 init.tmps
        first | done | omega | (simp_all; done) | (simp_all; omega)
      )
    ·
      try (simp [hn8])
      all_goals (
        -- 2 init.objs
        rfl
      )
  ·
    -- 3 init.inv
    first | done | omega | (simp_all; done) | (simp_all; omega)
  ·
    intro k hI0
    simp only [List.cons_append, List.nil_append]
    try dsimp only at hI0
    refine W.regK hΓ [1, 3, 4, 20, 21, 22, 59, 60, 61] (by simp [hn8, hI0]; rfl) ?_
    refine W.seqk fun K2 hK2 => ?_
    refine W.ite (by simp [hn8, hI0]; first | rfl | exact (Bool.not_not _).symm) (fun hc1 => ?_) (fun hc1 => ?_)
    ·
      try simp at hc1
      refine W.skip ?_
      refine thenQ_n (hK2 _ ?_)
      clear hK2 K2
      refine W.seqk fun K3 hK3 => ?_
      refine W.block ?_
      refine W.regK hΓ [1, 3, 4, 5, 20, 21, 59, 60, 61] (by simp [hn8, hI0, hc1]; rfl) ?_
      have hw : (Lit.int .i64 (k : Int)).wf = true := wfI (by omega) (by omega)
      have hset : setM (.int .i64 (k : Int)) (B true) (leftE (List.range k)) = leftE (List.range (k + 1)) := by
        rw [setM_left (by simp), List.range_succ]
      refine W.regE hΓ (by simp [hn8, hI0, hc1, hw, hset]; (try (simp (disch := omega) only [wrap_i64, mul_i64, capOk_of]; (try simp [hn8, hI0, hc1, hw, hset]))); rfl) ?_
      refine blockQ_n ?_
      refine thenQ_n (hK3 _ ?_)
      clear hK3 K3
      refine W.regE hΓ (by simp [hn8, hI0, hc1, hw, hset]; (try (simp (disch := omega) only [wrap_i64, mul_i64, capOk_of]; (try simp [hn8, hI0, hc1, hw, hset]))); rfl) ?_
      refine ⟨k + 1, Le.fit (by simp [hn8, hI0, hc1, hw, hset]; rfl) (by rfl) (by rfl) (by rfl) ?_ ?_, ?_, ?_⟩
      ·
        try (simp [hn8, hI0, hc1, hw, hset])
        all_goals (
          -- 4 back.tmps
          first | done | omega | (simp_all; done) | (simp_all; omega)
        )
      ·
        try (simp [hn8, hI0, hc1, hw, hset])
        all_goals (
          -- 5 back.objs
          first | done | omega | (simp_all; done) | (simp_all; omega)
        )
      ·
        -- 6 back.inv
        first | done | omega | (simp_all; done) | (simp_all; omega)
      ·
        -- 7 back.meas
        first | done | omega | (simp_all; done) | (simp_all; omega)
    ·
      try simp at hc1
      refine W.exit ?_
      refine thenQ_e ?_
      clear hK2 K2
      refine thenQ_e ?_
      refine blockQ_s ?_
      refine thenQ_n (hK1 _ ?_)
      clear hK1 K1
      refine W.regK hΓ [1, 3, 4, 6, 59, 60, 61] (by simp [hn8, hI0, hc1]; rfl) ?_
      refine W.seqk fun K4 hK4 => ?_
      refine W.block ?_
      refine W.weaken (Le.ownNil (t := 6) (id := 9000) (ty := 26) (sz := 1) rfl (by simp [hn8, hI0, hc1])) ?_
      refine W.norm (by simp [hn8, hI0, hc1, St.ownNil]; rfl) ?_
      refine W.loopU (α := List (List Nat) × List Nat) [1, 3, 4] [28, 32, 41, 46, 54, 61, 65, 66, 69, 70, 73, 79, 90] [9000, 136] (fun x => [(6, .own 9000 0 x.1.length)]) (fun x => [(9000, .row true 26 1 (x.1.map rgV)), (136, .mp shI (leftE x.2))]) (fun x => x.2.Nodup ∧ (∀ y ∈ x.2, y < ow.length) ∧ allRings (ptF ow lk) ow.length = x.1 ++ ringsF (ptF ow lk) ow.length x.2.length x.2 ∧ x.1.length + 8 * x.2.length ≤ 64) (fun x => x.2.length) ([], List.range ow.length) rfl (by simp [hn8, hI0, hc1]; rfl) (by simp [hn8, hI0, hc1]; rfl) ?_ ?_ ?_
      ·
        refine Le.fit (by simp [hn8, hI0, hc1]; rfl) (by rfl) (by rfl) (by rfl) ?_ ?_
        ·
          try (simp [hn8, hI0, hc1])
          all_goals (
            -- 8 init.tmps
            first | done | omega | (simp_all; done) | (simp_all; omega)
          )
        ·
          try (simp [hn8, hI0, hc1])
          all_goals (
            -- 9 init.objs
            obtain rfl : k = ow.length := by omega
            rfl
          )
      ·
        -- 10 init.inv
        exact ⟨List.nodup_range, fun y hy => List.mem_range.1 hy, by simp [allRings], by simp; omega⟩
      ·
        intro ⟨out, L⟩ hI1
        simp only [List.cons_append, List.nil_append]
        try dsimp only at hI1
        obtain ⟨hd, hL, hr, h64⟩ := hI1
        refine W.seqk fun K5 hK5 => ?_
        refine W.regK hΓ [1, 3, 4, 6, 29, 59, 60, 61] (by simp [hn8, hI0, hc1]; rfl) ?_
        refine W.ite (by simp [hn8, hI0, hc1]; first | rfl | exact (Bool.not_not _).symm) (fun hc2 => ?_) (fun hc2 => ?_)
        ·
          try simp at hc2
          refine W.skip ?_
          refine thenQ_n (hK5 _ ?_)
          clear hK5 K5
          refine W.block ?_
          refine W.scope ?_
          refine W.regK hΓ [1, 3, 4, 6, 7, 59, 60, 61] (by simp [hn8, hI0, hc1, hc2]; rfl) ?_
          refine W.seqk fun K6 hK6 => ?_
          refine W.label ?_
          refine thenQ_n (hK6 _ ?_)
          clear hK6 K6
          refine W.seqk fun K7 hK7 => ?_
          refine W.regK hΓ [1, 3, 4, 6, 7, 32, 33, 59, 60, 61] (by simp [hn8, hI0, hc1, hc2]; rfl) ?_
          refine W.block ?_
          refine W.weaken (Le.ownNil (t := 7) (id := 9008) (ty := 26) (sz := 1) rfl (by simp [hn8, hI0, hc1, hc2])) ?_
          refine W.norm (by simp [hn8, hI0, hc1, hc2, St.ownNil]; rfl) ?_
          refine W.loopU (α := Nat) [1, 3, 4, 6, 32] [41, 46, 54, 61, 65, 66, 69, 70] [9008] (fun i => [(33, I i), (7, .own 9008 0 (rnd ow lk L i).length)]) (fun i => [(9008, .row true 26 1 ((rnd ow lk L i).map rgV))]) (fun i => i ≤ ow.length) (fun i => ow.length - i) 0 rfl (by simp [hn8, hI0, hc1, hc2]; rfl) (by simp [hn8, hI0, hc1, hc2]; rfl) ?_ ?_ ?_
          ·
            refine Le.fit (by simp [hn8, hI0, hc1, hc2]; rfl) (by rfl) (by rfl) (by rfl) ?_ ?_
            ·
              try (simp [hn8, hI0, hc1, hc2])
              all_goals (
                -- 11 init.tmps
                rfl
              )
            ·
              try (simp [hn8, hI0, hc1, hc2])
              all_goals (
                -- 12 init.objs
                rfl
              )
          ·
            -- 13 init.inv
            first | done | omega | (simp_all; done) | (simp_all; omega)
          ·
            intro i hI2
            simp only [List.cons_append, List.nil_append]
            try dsimp only at hI2
            refine W.regK hΓ [1, 3, 4, 6, 7, 32, 33, 34, 59, 60, 61] (by simp [hn8, hI0, hc1, hc2, hI2]; rfl) ?_
            refine W.seqk fun K8 hK8 => ?_
            refine W.ite (by simp [hn8, hI0, hc1, hc2, hI2]; first | rfl | exact (Bool.not_not _).symm) (fun hc3 => ?_) (fun hc3 => ?_)
            ·
              try simp at hc3
              refine W.skip ?_
              refine thenQ_n (hK8 _ ?_)
              clear hK8 K8
              refine W.seqk fun K9 hK9 => ?_
              refine W.block ?_
              refine W.regK hΓ [1, 3, 4, 6, 7, 8, 32, 33, 59, 60, 61] (by simp [hn8, hI0, hc1, hc2, hI2, hc3]; rfl) ?_
              refine W.seqk fun K10 hK10 => ?_
              by_cases hLi : i ∈ L
              ·
                have qrl := rnd_length ow lk L i
                have hw : (Lit.int .i64 (i : Int)).wf = true := wfI (by omega) (by omega)
                have hgl : getM (.int .i64 (i : Int)) (leftE L) = if i ∈ L then some (B true) else none := getM_left i L
                refine W.regK hΓ [1, 3, 4, 6, 7, 8, 32, 33, 39, 59, 60, 61] (by simp [hn8, hI0, hc1, hc2, hI2, hc3, hLi, hw, hgl]; rfl) ?_
                refine W.cond (t := false) (by simp [hn8, hI0, hc1, hc2, hI2, hc3, hLi, hw, hgl]) ?_
                simp only [if_true, Bool.false_eq_true, if_false]
                refine W.skip ?_
                refine thenQ_n (hK10 _ ?_)
                clear hK10 K10
                refine W.regK hΓ [1, 3, 4, 6, 7, 8, 9, 32, 33, 59, 60, 61] (by simp [hn8, hI0, hc1, hc2, hI2, hc3, hLi, hw, hgl]; rfl) ?_
                refine W.seqk fun K11 hK11 => ?_
                refine W.seqR ?_
                refine WOps.n hΓ 4 (by simp [hn8, hI0, hc1, hc2, hI2, hc3, hLi, hw, hgl]; first | rfl | exact ⟨rfl, rfl⟩) rfl ?_
                refine WOps.call rfl rfl rfl rfl [(10000, 128), (10001, 136)] rfl rfl (by decide) (by simp [hn8, hI0, hc1, hc2, hI2, hc3, hLi, hw, hgl]; first | rfl | exact ⟨rfl, rfl⟩) (by simp [hn8, hI0, hc1, hc2, hI2, hc3, hLi, hw, hgl]; rfl) ?_
                refine CallT.mk (points_ok' ow lk L i hv (by omega)) (by simp [hn8, hI0, hc1, hc2, hI2, hc3, hLi, hw, hgl]) ?_
                refine WOps.norm (by simp [hn8, hI0, hc1, hc2, hI2, hc3, hLi, hw, hgl]; rfl) ?_
                refine WOps.n hΓ 1 (by simp [hn8, hI0, hc1, hc2, hI2, hc3, hLi, hw, hgl]; first | rfl | exact ⟨rfl, rfl⟩) rfl ?_
                refine WOps.endK ?_
                refine W.keep [1, 3, 4, 6, 7, 8, 9, 10, 32, 33, 59, 60, 61] (by simp [hn8, hI0, hc1, hc2, hI2, hc3, hLi, hw, hgl]; rfl) ?_
                refine W.block ?_
                refine W.loopU (α := List Nat × Nat) [1, 3, 4, 6, 7, 8, 32, 33] [54, 61, 65, 66] [328] (fun z => [(9, .own 328 0 z.1.length), (10, I z.2)]) (fun z => [(328, .row true 3 1 (z.1.map nI))]) (fun z => z.1.Nodup ∧ (∀ y ∈ z.1, y < ow.length) ∧ z.2 ∈ L ∧ ringP (ptF ow lk L) ow.length i = goP (ptF ow lk L) i (ow.length + 1 - z.1.length) z.1 z.2) (fun z => ow.length + 1 - z.1.length) ([i], ptF ow lk L i) rfl (by simp [hn8, hI0, hc1, hc2, hI2, hc3, hLi, hw, hgl]; rfl) (by simp [hn8, hI0, hc1, hc2, hI2, hc3, hLi, hw, hgl]; rfl) ?_ ?_ ?_
                ·
                  refine Le.fit (by simp [hn8, hI0, hc1, hc2, hI2, hc3, hLi, hw, hgl]; rfl) (by rfl) (by rfl) (by rfl) ?_ ?_
                  ·
                    try (simp [hn8, hI0, hc1, hc2, hI2, hc3, hLi, hw, hgl])
                    all_goals (
                      -- 14 init.tmps
                      first | done | omega | (simp_all; done) | (simp_all; omega)
                    )
                  ·
                    try (simp [hn8, hI0, hc1, hc2, hI2, hc3, hLi, hw, hgl])
                    all_goals (
                      -- 15 init.objs
                      first | done | omega | (simp_all; done) | (simp_all; omega)
                    )
                ·
                  -- 16 init.inv
                  exact ⟨by simp, fun y hy => by simp at hy; omega, ptF_closed ow lk L _ hLi, by simp [ringP]⟩
                ·
                  intro ⟨ring, at_⟩ hI3
                  simp only [List.cons_append, List.nil_append]
                  try dsimp only at hI3
                  obtain ⟨hrd, hrl, haL, hgo⟩ := hI3
                  have hat := hL _ haL
                  have hrn : ring.length ≤ ow.length := le_of_nodup_lt hrd hrl
                  refine W.seqk fun K12 hK12 => ?_
                  refine W.regK hΓ [1, 3, 4, 6, 7, 8, 9, 10, 32, 33, 49, 59, 60, 61] (by simp [hn8, hI0, hc1, hc2, hI2, hc3, hLi, hw, hgl, hat, hrn]; rfl) ?_
                  refine W.ite (by simp [hn8, hI0, hc1, hc2, hI2, hc3, hLi, hw, hgl, hat, hrn]; first | rfl | exact (Bool.not_not _).symm) (fun hc5 => ?_) (fun hc5 => ?_)
                  ·
                    try simp at hc5
                    refine W.skip ?_
                    refine thenQ_n (hK12 _ ?_)
                    clear hK12 K12
                    refine W.seqk fun K13 hK13 => ?_
                    refine W.block ?_
                    refine W.seqk fun K14 hK14 => ?_
                    by_cases hai : at_ < i
                    ·
                      refine W.seqR ?_
                      refine WOps.n hΓ 4 (by simp [hn8, hI0, hc1, hc2, hI2, hc3, hLi, hw, hgl, hat, hrn, hc5, hai]; first | rfl | exact ⟨rfl, rfl⟩) rfl ?_
                      refine WOps.gd rfl rfl (by simp [hn8, hI0, hc1, hc2, hI2, hc3, hLi, hw, hgl, hat, hrn, hc5, hai]; first | rfl | exact (Bool.not_not _).symm) ?_
                      (with_reducible refine WG.isF ?_); refine WGf.mk rfl (by simp [hn8, hI0, hc1, hc2, hI2, hc3, hLi, hw, hgl, hat, hrn, hc5, hai]; rfl) ?_
                      refine WOps.gd rfl rfl (by simp [hn8, hI0, hc1, hc2, hI2, hc3, hLi, hw, hgl, hat, hrn, hc5, hai]; first | rfl | exact (Bool.not_not _).symm) ?_
                      (with_reducible refine WG.isF ?_); refine WGf.mk rfl (by simp [hn8, hI0, hc1, hc2, hI2, hc3, hLi, hw, hgl, hat, hrn, hc5, hai]; rfl) ?_
                      refine WOps.gd rfl rfl (by simp [hn8, hI0, hc1, hc2, hI2, hc3, hLi, hw, hgl, hat, hrn, hc5, hai]; first | rfl | exact (Bool.not_not _).symm) ?_
                      (with_reducible refine WG.isF ?_); refine WGf.mk rfl (by simp [hn8, hI0, hc1, hc2, hI2, hc3, hLi, hw, hgl, hat, hrn, hc5, hai]; rfl) ?_
                      refine WOps.n hΓ 1 (by simp [hn8, hI0, hc1, hc2, hI2, hc3, hLi, hw, hgl, hat, hrn, hc5, hai]; first | rfl | exact ⟨rfl, rfl⟩) rfl ?_
                      refine WOps.endK ?_
                      refine W.keep [1, 3, 4, 6, 7, 8, 9, 10, 32, 33, 59, 60, 61, 62] (by simp [hn8, hI0, hc1, hc2, hI2, hc3, hLi, hw, hgl, hat, hrn, hc5, hai]; rfl) ?_
                      refine W.cond (t := true) (by simp [hn8, hI0, hc1, hc2, hI2, hc3, hLi, hw, hgl, hat, hrn, hc5, hai]) ?_
                      simp only [if_true, Bool.false_eq_true, if_false]
                      refine W.exit ?_
                      refine thenQ_e ?_
                      clear hK14 K14
                      refine blockQ_d rfl ?_
                      refine thenQ_e ?_
                      clear hK13 K13
                      refine thenQ_e ?_
                      refine blockQ_d rfl ?_
                      refine thenQ_e ?_
                      clear hK11 K11
                      refine blockQ_s ?_
                      refine thenQ_n (hK9 _ ?_)
                      clear hK9 K9
                      refine W.regE hΓ (by simp [hn8, hI0, hc1, hc2, hI2, hc3, hLi, hw, hgl, hat, hrn, hc5, hai]; (try (simp (disch := omega) only [wrap_i64, mul_i64, capOk_of]; (try simp [hn8, hI0, hc1, hc2, hI2, hc3, hLi, hw, hgl, hat, hrn, hc5, hai]))); rfl) ?_
                      refine ⟨i + 1, Le.fit (by simp [hn8, hI0, hc1, hc2, hI2, hc3, hLi, hw, hgl, hat, hrn, hc5, hai]; rfl) (by rfl) (by rfl) (by rfl) ?_ ?_, ?_, ?_⟩
                      ·
                        try (simp [hn8, hI0, hc1, hc2, hI2, hc3, hLi, hw, hgl, hat, hrn, hc5, hai])
                        all_goals (
                          -- 17 back.tmps
                          rw [rnd_none (hgo.trans (goP_stop hrn (by omega) (.inl hai)))]
                        )
                      ·
                        try (simp [hn8, hI0, hc1, hc2, hI2, hc3, hLi, hw, hgl, hat, hrn, hc5, hai])
                        all_goals (
                          -- 18 back.objs
                          rw [rnd_none (hgo.trans (goP_stop hrn (by omega) (.inl hai)))]
                        )
                      ·
                        -- 19 back.inv
                        first | done | omega | (simp_all; done) | (simp_all; omega)
                      ·
                        -- 20 back.meas
                        first | done | omega | (simp_all; done) | (simp_all; omega)
                    ·
                      refine W.seqR ?_
                      refine WOps.n hΓ 4 (by simp [hn8, hI0, hc1, hc2, hI2, hc3, hLi, hw, hgl, hat, hrn, hc5, hai]; first | rfl | exact ⟨rfl, rfl⟩) rfl ?_
                      refine WOps.gd rfl rfl (by simp [hn8, hI0, hc1, hc2, hI2, hc3, hLi, hw, hgl, hat, hrn, hc5, hai]; first | rfl | exact (Bool.not_not _).symm) ?_
                      (with_reducible refine WG.isT ?_); refine WGt.mk hΓ rfl (by simp [hn8, hI0, hc1, hc2, hI2, hc3, hLi, hw, hgl, hat, hrn, hc5, hai]; first | rfl | exact ⟨rfl, rfl⟩) (by simp [hn8, hI0, hc1, hc2, hI2, hc3, hLi, hw, hgl, hat, hrn, hc5, hai]; rfl) ?_
                      refine WOps.gd rfl rfl (by simp [hn8, hI0, hc1, hc2, hI2, hc3, hLi, hw, hgl, hat, hrn, hc5, hai]; first | rfl | exact (Bool.not_not _).symm) ?_
                      (with_reducible refine WG.isT ?_); refine WGt.mk hΓ rfl (by simp [hn8, hI0, hc1, hc2, hI2, hc3, hLi, hw, hgl, hat, hrn, hc5, hai]; first | rfl | exact ⟨rfl, rfl⟩) (by simp [hn8, hI0, hc1, hc2, hI2, hc3, hLi, hw, hgl, hat, hrn, hc5, hai]; rfl) ?_
                      refine WOps.gd rfl rfl (by simp [hn8, hI0, hc1, hc2, hI2, hc3, hLi, hw, hgl, hat, hrn, hc5, hai]; first | rfl | exact (Bool.not_not _).symm) ?_
                      (with_reducible refine WG.isT ?_)
                      refine WGt.call rfl rfl rfl [] rfl rfl (by decide) (by simp [hn8, hI0, hc1, hc2, hI2, hc3, hLi, hw, hgl, hat, hrn, hc5, hai]; first | rfl | exact ⟨rfl, rfl⟩) (by simp [hn8, hI0, hc1, hc2, hI2, hc3, hLi, hw, hgl, hat, hrn, hc5, hai]; rfl) ?_
                      refine CallT.mk (ContainsN_ok ring at_) (by simp [hn8, hI0, hc1, hc2, hI2, hc3, hLi, hw, hgl, hat, hrn, hc5, hai]) ?_
                      refine WOps.norm (by simp [hn8, hI0, hc1, hc2, hI2, hc3, hLi, hw, hgl, hat, hrn, hc5, hai]; rfl) ?_
                      refine WOps.n hΓ 1 (by simp [hn8, hI0, hc1, hc2, hI2, hc3, hLi, hw, hgl, hat, hrn, hc5, hai]; first | rfl | exact ⟨rfl, rfl⟩) rfl ?_
                      refine WOps.endK ?_
                      refine W.keep [1, 3, 4, 6, 7, 8, 9, 10, 32, 33, 59, 60, 61, 62] (by simp [hn8, hI0, hc1, hc2, hI2, hc3, hLi, hw, hgl, hat, hrn, hc5, hai]; rfl) ?_
                      refine W.ite (by simp [hn8, hI0, hc1, hc2, hI2, hc3, hLi, hw, hgl, hat, hrn, hc5, hai]; first | rfl | exact (Bool.not_not _).symm) (fun hc7 => ?_) (fun hc7 => ?_)
                      ·
                        try simp at hc7
                        refine W.exit ?_
                        refine thenQ_e ?_
                        clear hK14 K14
                        refine blockQ_d rfl ?_
                        refine thenQ_e ?_
                        clear hK13 K13
                        refine thenQ_e ?_
                        refine blockQ_d rfl ?_
                        refine thenQ_e ?_
                        clear hK11 K11
                        refine blockQ_s ?_
                        refine thenQ_n (hK9 _ ?_)
                        clear hK9 K9
                        refine W.regE hΓ (by simp [hn8, hI0, hc1, hc2, hI2, hc3, hLi, hw, hgl, hat, hrn, hc5, hai, hc7]; (try (simp (disch := omega) only [wrap_i64, mul_i64, capOk_of]; (try simp [hn8, hI0, hc1, hc2, hI2, hc3, hLi, hw, hgl, hat, hrn, hc5, hai, hc7]))); rfl) ?_
                        refine ⟨i + 1, Le.fit (by simp [hn8, hI0, hc1, hc2, hI2, hc3, hLi, hw, hgl, hat, hrn, hc5, hai, hc7]; rfl) (by rfl) (by rfl) (by rfl) ?_ ?_, ?_, ?_⟩
                        ·
                          try (simp [hn8, hI0, hc1, hc2, hI2, hc3, hLi, hw, hgl, hat, hrn, hc5, hai, hc7])
                          all_goals (
                            -- 21 back.tmps
                            rw [rnd_none (hgo.trans (goP_stop hrn (by omega) (.inr hc7)))]
                          )
                        ·
                          try (simp [hn8, hI0, hc1, hc2, hI2, hc3, hLi, hw, hgl, hat, hrn, hc5, hai, hc7])
                          all_goals (
                            -- 22 back.objs
                            rw [rnd_none (hgo.trans (goP_stop hrn (by omega) (.inr hc7)))]
                          )
                        ·
                          -- 23 back.inv
                          first | done | omega | (simp_all; done) | (simp_all; omega)
                        ·
                          -- 24 back.meas
                          first | done | omega | (simp_all; done) | (simp_all; omega)
                      ·
                        try simp at hc7
                        refine W.skip ?_
                        refine thenQ_n (hK14 _ ?_)
                        clear hK14 K14
                        refine W.regE hΓ (by simp [hn8, hI0, hc1, hc2, hI2, hc3, hLi, hw, hgl, hat, hrn, hc5, hai, hc7]; (try (simp (disch := omega) only [wrap_i64, mul_i64, capOk_of]; (try simp [hn8, hI0, hc1, hc2, hI2, hc3, hLi, hw, hgl, hat, hrn, hc5, hai, hc7]))); rfl) ?_
                        refine blockQ_n ?_
                        refine thenQ_n (hK13 _ ?_)
                        clear hK13 K13
                        refine W.region ?_
                        refine WOps.n hΓ 4 (by simp [hn8, hI0, hc1, hc2, hI2, hc3, hLi, hw, hgl, hat, hrn, hc5, hai, hc7]; first | rfl | exact ⟨rfl, rfl⟩) rfl ?_
                        refine WOps.call rfl rfl rfl rfl [(10000, 128), (10001, 136)] rfl rfl (by decide) (by simp [hn8, hI0, hc1, hc2, hI2, hc3, hLi, hw, hgl, hat, hrn, hc5, hai, hc7]; first | rfl | exact ⟨rfl, rfl⟩) (by simp [hn8, hI0, hc1, hc2, hI2, hc3, hLi, hw, hgl, hat, hrn, hc5, hai, hc7]; rfl) ?_
                        refine CallT.mk (points_ok' ow lk L at_ hv hat) (by simp [hn8, hI0, hc1, hc2, hI2, hc3, hLi, hw, hgl, hat, hrn, hc5, hai, hc7]) ?_
                        refine WOps.norm (by simp [hn8, hI0, hc1, hc2, hI2, hc3, hLi, hw, hgl, hat, hrn, hc5, hai, hc7]; rfl) ?_
                        refine WOps.n hΓ 1 (by simp [hn8, hI0, hc1, hc2, hI2, hc3, hLi, hw, hgl, hat, hrn, hc5, hai, hc7]; first | rfl | exact ⟨rfl, rfl⟩) rfl ?_
                        refine WOps.endK ?_
                        refine ⟨(ring ++ [at_], ptF ow lk L at_), Le.fit (by simp [hn8, hI0, hc1, hc2, hI2, hc3, hLi, hw, hgl, hat, hrn, hc5, hai, hc7]; rfl) (by rfl) (by rfl) (by rfl) ?_ ?_, ?_, ?_⟩
                        ·
                          try (simp [hn8, hI0, hc1, hc2, hI2, hc3, hLi, hw, hgl, hat, hrn, hc5, hai, hc7])
                          all_goals (
                            -- 25 back.tmps
                            first | done | omega | (simp_all; done) | (simp_all; omega)
                          )
                        ·
                          try (simp [hn8, hI0, hc1, hc2, hI2, hc3, hLi, hw, hgl, hat, hrn, hc5, hai, hc7])
                          all_goals (
                            -- 26 back.objs
                            first | done | omega | (simp_all; done) | (simp_all; omega)
                          )
                        ·
                          -- 27 back.inv
                          have hne : at_ ≠ i := by omega
                          exact ⟨List.nodup_append.2 ⟨hrd, by simp, fun a ha b hb => by simp at hb; subst hb; intro e; exact hc7 (e ▸ ha)⟩, fun y hy => (List.mem_append.1 hy).elim (hrl y) (fun h => by simp at h; omega), ptF_closed ow lk L _ haL, hgo.trans (goP_on hrn hne (by simp [hai, hc7]))⟩
                        ·
                          -- 28 back.meas
                          first | done | omega | (simp_all; done) | (simp_all; omega)
                  ·
                    try simp at hc5
                    refine W.exit ?_
                    refine thenQ_e ?_
                    clear hK12 K12
                    refine thenQ_e ?_
                    refine blockQ_s ?_
                    refine thenQ_n (hK11 _ ?_)
                    clear hK11 K11
                    refine W.regE hΓ (by simp [hn8, hI0, hc1, hc2, hI2, hc3, hLi, hw, hgl, hat, hrn, hc5]; (try (simp (disch := omega) only [wrap_i64, mul_i64, capOk_of]; (try simp [hn8, hI0, hc1, hc2, hI2, hc3, hLi, hw, hgl, hat, hrn, hc5]))); rfl) ?_
                    refine blockQ_n ?_
                    refine thenQ_n (hK9 _ ?_)
                    clear hK9 K9
                    refine W.regE hΓ (by simp [hn8, hI0, hc1, hc2, hI2, hc3, hLi, hw, hgl, hat, hrn, hc5]; (try (simp (disch := omega) only [wrap_i64, mul_i64, capOk_of]; (try simp [hn8, hI0, hc1, hc2, hI2, hc3, hLi, hw, hgl, hat, hrn, hc5]))); rfl) ?_
                    refine ⟨i + 1, Le.fit (by simp [hn8, hI0, hc1, hc2, hI2, hc3, hLi, hw, hgl, hat, hrn, hc5]; rfl) (by rfl) (by rfl) (by rfl) ?_ ?_, ?_, ?_⟩
                    ·
                      try (simp [hn8, hI0, hc1, hc2, hI2, hc3, hLi, hw, hgl, hat, hrn, hc5])
                      all_goals (
                        -- 29 back.tmps
                        obtain rfl : at_ = i := by omega
                        rw [rnd_some hLi (hgo.trans (goP_end hrn))]; simp
                      )
                    ·
                      try (simp [hn8, hI0, hc1, hc2, hI2, hc3, hLi, hw, hgl, hat, hrn, hc5])
                      all_goals (
                        -- 30 back.objs
                        obtain rfl : at_ = i := by omega
                        rw [rnd_some hLi (hgo.trans (goP_end hrn))]; simp
                      )
                    ·
                      -- 31 back.inv
                      first | done | omega | (simp_all; done) | (simp_all; omega)
                    ·
                      -- 32 back.meas
                      first | done | omega | (simp_all; done) | (simp_all; omega)
              ·
                have qrl := rnd_length ow lk L i
                have hw : (Lit.int .i64 (i : Int)).wf = true := wfI (by omega) (by omega)
                have hgl : getM (.int .i64 (i : Int)) (leftE L) = if i ∈ L then some (B true) else none := getM_left i L
                refine W.regK hΓ [1, 3, 4, 6, 7, 8, 32, 33, 39, 59, 60, 61] (by simp [hn8, hI0, hc1, hc2, hI2, hc3, hLi, hw, hgl]; rfl) ?_
                refine W.cond (t := true) (by simp [hn8, hI0, hc1, hc2, hI2, hc3, hLi, hw, hgl]) ?_
                simp only [if_true, Bool.false_eq_true, if_false]
                refine W.exit ?_
                refine thenQ_e ?_
                clear hK10 K10
                refine blockQ_s ?_
                refine thenQ_n (hK9 _ ?_)
                clear hK9 K9
                refine W.regE hΓ (by simp [hn8, hI0, hc1, hc2, hI2, hc3, hLi, hw, hgl]; (try (simp (disch := omega) only [wrap_i64, mul_i64, capOk_of]; (try simp [hn8, hI0, hc1, hc2, hI2, hc3, hLi, hw, hgl]))); rfl) ?_
                refine ⟨i + 1, Le.fit (by simp [hn8, hI0, hc1, hc2, hI2, hc3, hLi, hw, hgl]; rfl) (by rfl) (by rfl) (by rfl) ?_ ?_, ?_, ?_⟩
                ·
                  try (simp [hn8, hI0, hc1, hc2, hI2, hc3, hLi, hw, hgl])
                  all_goals (
                    -- 33 back.tmps
                    rw [rnd_out hLi]
                  )
                ·
                  try (simp [hn8, hI0, hc1, hc2, hI2, hc3, hLi, hw, hgl])
                  all_goals (
                    -- 34 back.objs
                    rw [rnd_out hLi]
                  )
                ·
                  -- 35 back.inv
                  first | done | omega | (simp_all; done) | (simp_all; omega)
                ·
                  -- 36 back.meas
                  first | done | omega | (simp_all; done) | (simp_all; omega)
            ·
              try simp at hc3
              obtain rfl : i = ow.length := by omega
              have qrl := rnd_length ow lk L ow.length
              refine W.exit ?_
              refine thenQ_e ?_
              clear hK8 K8
              refine thenQ_e ?_
              refine blockQ_s ?_
              refine thenQ_n (hK7 _ ?_)
              clear hK7 K7
              refine W.seqk fun K15 hK15 => ?_
              refine W.regK hΓ [1, 3, 4, 6, 7, 59, 60, 61, 72, 73, 74] (by simp [hn8, hI0, hc1, hc2, hI2, hc3]; rfl) ?_
              refine W.block ?_
              refine W.loopU (α := Nat) [1, 3, 4, 6, 7, 59, 60, 61, 72, 73] [79] [136] (fun j => [(74, I j)]) (fun j => [(136, .mp shI (leftE (eraseAll ((rnd ow lk L ow.length).take j).flatten L)))]) (fun j => j ≤ (rnd ow lk L ow.length).length) (fun j => (rnd ow lk L ow.length).length - j) 0 rfl (by simp [hn8, hI0, hc1, hc2, hI2, hc3]; rfl) (by simp [hn8, hI0, hc1, hc2, hI2, hc3]; rfl) ?_ ?_ ?_
              ·
                refine Le.fit (by simp [hn8, hI0, hc1, hc2, hI2, hc3]; rfl) (by rfl) (by rfl) (by rfl) ?_ ?_
                ·
                  try (simp [hn8, hI0, hc1, hc2, hI2, hc3])
                  all_goals (
                    -- 37 init.tmps
                    first | done | omega | (simp_all; done) | (simp_all; omega)
                  )
                ·
                  try (simp [hn8, hI0, hc1, hc2, hI2, hc3])
                  all_goals (
                    -- 38 init.objs
                    rfl
                  )
              ·
                -- 39 init.inv
                first | done | omega | (simp_all; done) | (simp_all; omega)
              ·
                intro j hI4
                simp only [List.cons_append, List.nil_append]
                try dsimp only at hI4
                refine W.regK hΓ [1, 3, 4, 6, 7, 59, 60, 61, 72, 73, 74, 75] (by simp [hn8, hI0, hc1, hc2, hI2, hc3, hI4]; rfl) ?_
                refine W.seqk fun K16 hK16 => ?_
                refine W.ite (by simp [hn8, hI0, hc1, hc2, hI2, hc3, hI4]; first | rfl | exact (Bool.not_not _).symm) (fun hc9 => ?_) (fun hc9 => ?_)
                ·
                  try simp at hc9
                  refine W.skip ?_
                  refine thenQ_n (hK16 _ ?_)
                  clear hK16 K16
                  refine W.seqk fun K17 hK17 => ?_
                  refine W.block ?_
                  refine W.regK hΓ [1, 3, 4, 6, 7, 12, 59, 60, 61, 72, 73, 74] (by simp [hn8, hI0, hc1, hc2, hI2, hc3, hI4, hc9]; rfl) ?_
                  refine W.regK hΓ [1, 3, 4, 6, 7, 59, 60, 61, 72, 73, 74, 78, 79, 80] (by simp [hn8, hI0, hc1, hc2, hI2, hc3, hI4, hc9]; rfl) ?_
                  refine W.block ?_
                  have qlen := rnd_ring_le (lk := lk) hd hL (List.getElem_mem hc9)
                  refine W.loopU (α := Nat) [1, 3, 4, 6, 7, 59, 60, 61, 72, 73, 74, 78, 79] [] [136] (fun k => [(80, I k)]) (fun k => [(136, .mp shI (leftE (eraseAll ((rnd ow lk L ow.length)[j].take k) (eraseAll ((rnd ow lk L ow.length).take j).flatten L))))]) (fun k => k ≤ (rnd ow lk L ow.length)[j].length) (fun k => (rnd ow lk L ow.length)[j].length - k) 0 rfl (by simp [hn8, hI0, hc1, hc2, hI2, hc3, hI4, hc9]; rfl) (by simp [hn8, hI0, hc1, hc2, hI2, hc3, hI4, hc9]; rfl) ?_ ?_ ?_
                  ·
                    refine Le.fit (by simp [hn8, hI0, hc1, hc2, hI2, hc3, hI4, hc9]; rfl) (by rfl) (by rfl) (by rfl) ?_ ?_
                    ·
                      try (simp [hn8, hI0, hc1, hc2, hI2, hc3, hI4, hc9])
                      all_goals (
                        -- 40 init.tmps
                        first | done | omega | (simp_all; done) | (simp_all; omega)
                      )
                    ·
                      try (simp [hn8, hI0, hc1, hc2, hI2, hc3, hI4, hc9])
                      all_goals (
                        -- 41 init.objs
                        rfl
                      )
                  ·
                    -- 42 init.inv
                    first | done | omega | (simp_all; done) | (simp_all; omega)
                  ·
                    intro k hI5
                    simp only [List.cons_append, List.nil_append]
                    try dsimp only at hI5
                    refine W.regK hΓ [1, 3, 4, 6, 7, 59, 60, 61, 72, 73, 74, 78, 79, 80, 81] (by simp [hn8, hI0, hc1, hc2, hI2, hc3, hI4, hc9, hI5]; rfl) ?_
                    refine W.seqk fun K18 hK18 => ?_
                    refine W.ite (by simp [hn8, hI0, hc1, hc2, hI2, hc3, hI4, hc9, hI5]; first | rfl | exact (Bool.not_not _).symm) (fun hc10 => ?_) (fun hc10 => ?_)
                    ·
                      try simp at hc10
                      refine W.skip ?_
                      refine thenQ_n (hK18 _ ?_)
                      clear hK18 K18
                      refine W.seqk fun K19 hK19 => ?_
                      refine W.block ?_
                      refine W.regK hΓ [1, 3, 4, 6, 7, 14, 59, 60, 61, 72, 73, 74, 78, 79, 80] (by simp [hn8, hI0, hc1, hc2, hI2, hc3, hI4, hc9, hI5, hc10]; rfl) ?_
                      have qx : (rnd ow lk L ow.length)[j][k] < ow.length := hL _ (rnd_mem hd hL (List.getElem_mem hc9) _ (List.getElem_mem hc10))
                      have hw : (Lit.int .i64 (((rnd ow lk L ow.length)[j][k] : Nat) : Int)).wf = true := wfI (by omega) (by omega)
                      have hdl := delM_left (rnd ow lk L ow.length)[j][k]
                      refine W.regE hΓ (by simp [hn8, hI0, hc1, hc2, hI2, hc3, hI4, hc9, hI5, hc10, hw, hdl]; rfl) ?_
                      refine blockQ_n ?_
                      refine thenQ_n (hK19 _ ?_)
                      clear hK19 K19
                      refine W.regE hΓ (by simp [hn8, hI0, hc1, hc2, hI2, hc3, hI4, hc9, hI5, hc10, hw, hdl]; (try (simp (disch := omega) only [wrap_i64, mul_i64, capOk_of]; (try simp [hn8, hI0, hc1, hc2, hI2, hc3, hI4, hc9, hI5, hc10, hw, hdl]))); rfl) ?_
                      refine ⟨k + 1, Le.fit (by simp [hn8, hI0, hc1, hc2, hI2, hc3, hI4, hc9, hI5, hc10, hw, hdl]; rfl) (by rfl) (by rfl) (by rfl) ?_ ?_, ?_, ?_⟩
                      ·
                        try (simp [hn8, hI0, hc1, hc2, hI2, hc3, hI4, hc9, hI5, hc10, hw, hdl])
                        all_goals (
                          -- 43 back.tmps
                          exact IntKind.wrap_i64 (by omega) (by omega)
                        )
                      ·
                        try (simp [hn8, hI0, hc1, hc2, hI2, hc3, hI4, hc9, hI5, hc10, hw, hdl])
                        all_goals (
                          -- 44 back.objs
                          rw [List.take_succ_eq_append_getElem hc10, eraseAll_snoc]
                        )
                      ·
                        -- 45 back.inv
                        first | done | omega | (simp_all; done) | (simp_all; omega)
                      ·
                        -- 46 back.meas
                        first | done | omega | (simp_all; done) | (simp_all; omega)
                    ·
                      try simp at hc10
                      refine W.exit ?_
                      refine thenQ_e ?_
                      clear hK18 K18
                      refine thenQ_e ?_
                      refine blockQ_s ?_
                      refine blockQ_n ?_
                      refine thenQ_n (hK17 _ ?_)
                      clear hK17 K17
                      refine W.regE hΓ (by simp [hn8, hI0, hc1, hc2, hI2, hc3, hI4, hc9, hI5, hc10]; (try (simp (disch := omega) only [wrap_i64, mul_i64, capOk_of]; (try simp [hn8, hI0, hc1, hc2, hI2, hc3, hI4, hc9, hI5, hc10]))); rfl) ?_
                      refine ⟨j + 1, Le.fit (by simp [hn8, hI0, hc1, hc2, hI2, hc3, hI4, hc9, hI5, hc10]; rfl) (by rfl) (by rfl) (by rfl) ?_ ?_, ?_, ?_⟩
                      ·
                        try (simp [hn8, hI0, hc1, hc2, hI2, hc3, hI4, hc9, hI5, hc10])
                        all_goals (
                          -- 47 back.tmps
                          first | done | omega | (simp_all; done) | (simp_all; omega)
                        )
                      ·
                        try (simp [hn8, hI0, hc1, hc2, hI2, hc3, hI4, hc9, hI5, hc10])
                        all_goals (
                          -- 48 back.objs
                          rw [List.take_of_length_le hc10, List.take_succ_eq_append_getElem hc9, List.flatten_append, eraseAll_append]; simp
                        )
                      ·
                        -- 49 back.inv
                        first | done | omega | (simp_all; done) | (simp_all; omega)
                      ·
                        -- 50 back.meas
                        first | done | omega | (simp_all; done) | (simp_all; omega)
                ·
                  try simp at hc9
                  refine W.exit ?_
                  refine thenQ_e ?_
                  clear hK16 K16
                  refine thenQ_e ?_
                  refine blockQ_s ?_
                  refine thenQ_n (hK15 _ ?_)
                  clear hK15 K15
                  refine W.regE hΓ (by simp [hn8, hI0, hc1, hc2, hI2, hc3, hI4, hc9]; (try (simp (disch := omega) only [wrap_i64, mul_i64, capOk_of]; (try simp [hn8, hI0, hc1, hc2, hI2, hc3, hI4, hc9]))); rfl) ?_
                  refine noGotoQ_n ?_
                  refine blockQ_n ?_
                  refine ⟨(out ++ rnd ow lk L ow.length, eraseAll (rnd ow lk L ow.length).flatten L), Le.fit (by simp [hn8, hI0, hc1, hc2, hI2, hc3, hI4, hc9]; rfl) (by rfl) (by rfl) (by rfl) ?_ ?_, ?_, ?_⟩
                  ·
                    try (simp [hn8, hI0, hc1, hc2, hI2, hc3, hI4, hc9])
                    all_goals (
                      -- 51 back.tmps
                      first | done | omega | (simp_all; done) | (simp_all; omega)
                    )
                  ·
                    try (simp [hn8, hI0, hc1, hc2, hI2, hc3, hI4, hc9])
                    all_goals (
                      -- 52 back.objs
                      rw [List.take_of_length_le hc9]
                    )
                  ·
                    -- 53 back.inv
                    refine ⟨eraseAll_nodup hd, fun y hy => hL y ((eraseAll_sub _ _).subset hy), by rw [hr, rings_next hd hL hc2, List.append_assoc], ?_⟩
                    have := rnd_step (lk := lk) hd hL hc2
                    simp only [List.length_append]; omega
                  ·
                    -- 54 back.meas
                    exact rnd_step hd hL hc2
        ·
          try simp at hc2
          refine W.exit ?_
          refine thenQ_e ?_
          clear hK5 K5
          refine thenQ_e ?_
          refine blockQ_s ?_
          refine thenQ_n (hK4 _ ?_)
          clear hK4 K4
          refine W.regK hΓ [2] (by simp [hn8, hI0, hc1, hc2]; rfl) ?_
          refine W.ret ?_
          refine EndQ.r false [9000] [] (by simp [hn8, hI0, hc1, hc2]; first | rfl | exact ⟨rfl, rfl⟩) ?_
          -- 55 end
          have : L = [] := by cases L <;> simp_all
          subst this
          exact ⟨by rw [hr]; simp [ringsF], rfl⟩
end Go.Sim
