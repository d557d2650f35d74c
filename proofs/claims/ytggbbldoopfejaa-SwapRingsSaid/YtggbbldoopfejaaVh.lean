/- What pleases. -/
import Derived.Test.YtggbbldoopfejaaVg
namespace Go.Sim
open Go.Proofs Go.Plain
set_option maxRecDepth 100000
set_option linter.unusedSimpArgs false
attribute [-simp] List.map_set List.map_take List.map_drop
attribute [local simp] take_map' drop_map'
/-- how a trader likes a turn, the program's -/
def rk (ow : List Turn) (lk : List (List Turn)) (i : Nat) (x : Turn) : Int := rankI (nth lk i) (nth ow i) x
theorem rk_eq {ow : List Turn} {lk : List (List Turn)} {i : Nat} (h1 : i < ow.length) (h2 : i < lk.length) (x : Turn) : rankI lk[i] ow[i] x = rk ow lk i x := by rw [rk, nth_get h1, nth_get h2]
theorem rank_ok' (ow : List Turn) (lk : List (List Turn)) (i : Nat) (x : Turn) (hi : i < ow.length) (hk : i < lk.length) : ACalls Try.prog 61 [trade ow lk, I i, .agg [I x.1, I x.2]] [] (fun r o => r = I (rk ow lk i x) ∧ o = []) := by
  have := rank_ok ow lk i x.1 x.2 hi hk
  rwa [rk_eq hi hk] at this
/-- likes what another one holds more -/
def more (ow : List Turn) (lk : List (List Turn)) (held : List Turn) (a b : Nat) : Bool := decide (rk ow lk a (nth held b) < rk ow lk a (nth held a))
set_option maxHeartbeats 4000000 in
theorem likes_ok (ow : List Turn) (lk : List (List Turn)) (held : List Turn) (a b : Nat) (ha : a < ow.length) (hk : a < lk.length) (hah : a < held.length) (hbh : b < held.length) : ACalls Try.prog 60 [I a, I b, .ptr 10000 0 0, .ptr 10001 0 0] [(10000, .row false 25 2 [trade ow lk]), (10001, .row false 22 1 [turns held])] (fun r o => r = B (more ow lk held a b) ∧ o = [(10000, .row false 25 2 [trade ow lk]), (10001, .row false 22 1 [turns held])]) := by
  refine ACalls.enter hΓ Try.func60 rfl (by kernel_rfl) Try.ntmps60 (by rw [Try.results60]) (by simp) (by simp [ha, hk, hah, hbh]; rfl) ?_
  refine W.regK hΓ [0, 1, 2, 3] (by simp [ha, hk, hah, hbh]; rfl) ?_
  refine W.drawT hm 13 [] (deps := [[], [], [], [], [3, 2], [2, 3, 4], [4, 3, 2, 5, 1, 0], [], [], [], [], [10, 9], [9, 10, 11], [0, 1, 5, 2, 3, 4, 6, 11, 10, 9, 12, 8, 7], [7, 8, 12, 9, 10, 11, 13, 0, 1, 5, 2, 3, 4, 6], [6, 4, 3, 2, 5, 1, 0, 13, 11, 10, 9, 12, 8, 7, 14]]) (by rfl) (by rfl) ?_
  refine WDraw.n hΓ 6 7 rfl (by simp [ha, hk, hah, hbh]; exact ⟨rfl, rfl, rfl⟩) rfl ?_
  refine WDraw.callD (by simp [ha, hk, hah, hbh]; rfl) rfl rfl rfl [] rfl (by simp [ha, hk, hah, hbh]; first | rfl | exact ⟨rfl, rfl⟩) (by simp [ha, hk, hah, hbh]; rfl) rfl rfl (.inl rfl) ?_
  refine CallD.mk (rank_ok' ow lk a held[b] ha hk) (by simp [ha, hk, hah, hbh]) ⟨(by simp [ha, hk, hah, hbh]), _, (by simp [ha, hk, hah, hbh]; rfl), ?_⟩
  refine WDraw.n hΓ 6 0 rfl (by simp [ha, hk, hah, hbh]; exact ⟨rfl, rfl, rfl⟩) rfl ?_
  refine WDraw.done (by simp [ha, hk, hah, hbh]; rfl) ?_
  refine WOps.call rfl rfl rfl rfl [] rfl rfl (by decide) (by simp [ha, hk, hah, hbh]; first | rfl | exact ⟨rfl, rfl⟩) (by simp [ha, hk, hah, hbh]; rfl) ?_
  refine CallT.mk (rank_ok' ow lk a held[a] ha hk) (by simp [ha, hk, hah, hbh]) ?_
  refine WOps.norm (by simp [ha, hk, hah, hbh]; rfl) ?_
  refine WOps.n hΓ 2 (by simp [ha, hk, hah, hbh]; first | rfl | exact ⟨rfl, rfl⟩) rfl ?_
  refine WOps.endK ?_
  refine W.keep [6] (by simp [ha, hk, hah, hbh]; rfl) ?_
  refine W.ret ?_
  refine EndQ.r false [] [(10000, 10000), (10001, 10001)] (by simp [ha, hk, hah, hbh]; first | rfl | exact ⟨rfl, rfl⟩) ?_
  -- 1 end
  exact ⟨by rw [more, nth_get hah, nth_get hbh], rfl⟩
/-- the first list that is not empty -/
def firstNE (g : Nat → List Nat) : List Nat → List Nat
  | [] => []
  | i :: r => if g i = [] then firstNE g r else g i
/-- the program's search for a ring -/
def seekP (lkf : Nat → Nat → Bool) (n many : Nat) : Nat → List Nat → List Nat
  | 0, _ => []
  | f + 1, l => if l.length = many then (if lkf (nth l (l.length - 1)) (nth l 0) then l else []) else firstNE (fun i => if i ∈ l ∨ lkf (nth l (l.length - 1)) i = false then [] else seekP lkf n many f (l ++ [i])) (List.range' (nth l 0 + 1) (n - (nth l 0 + 1)))
theorem range'_next {i n : Nat} (h : i < n) : List.range' i (n - i) = i :: List.range' (i + 1) (n - (i + 1)) := by
  rw [show n - i = (n - (i + 1)) + 1 by omega, List.range'_succ]
theorem range'_done {i n : Nat} (h : n ≤ i) : List.range' i (n - i) = [] := by rw [show n - i = 0 by omega]; rfl
theorem seekP_full {lkf : Nat → Nat → Bool} {n many f m : Nat} {l : List Nat} (hlm : l.length = m + 1) (h : l.length = many) (hml : m < l.length) (h0 : 0 < l.length) : seekP lkf n many (f + 1) l = if lkf l[m] l[0] then l else [] := by
  rw [seekP, if_pos h, show l.length - 1 = m by omega, nth_get hml, nth_get h0]
theorem seekP_go {lkf : Nat → Nat → Bool} {n many f m : Nat} {l : List Nat} (hlm : l.length = m + 1) (h : l.length ≠ many) (hml : m < l.length) (h0 : 0 < l.length) : seekP lkf n many (f + 1) l = firstNE (fun i => if i ∈ l ∨ lkf l[m] i = false then [] else seekP lkf n many f (l ++ [i])) (List.range' (l[0] + 1) (n - (l[0] + 1))) := by
  rw [seekP, if_neg h, show l.length - 1 = m by omega, nth_get hml, nth_get h0]
theorem firstNE_skip {g : Nat → List Nat} {i n : Nat} (h : i < n) (hg : g i = []) : firstNE g (List.range' i (n - i)) = firstNE g (List.range' (i + 1) (n - (i + 1))) := by
  rw [range'_next h, firstNE, if_pos hg]
theorem firstNE_hit {g : Nat → List Nat} {i n : Nat} (h : i < n) (hg : g i ≠ []) : firstNE g (List.range' i (n - i)) = g i := by
  rw [range'_next h, firstNE, if_neg hg]
theorem firstNE_done {g : Nat → List Nat} {i n : Nat} (h : n ≤ i) : firstNE g (List.range' i (n - i)) = [] := by rw [range'_done h]; rfl
def optR (l : List Nat) : AV := if l = [] then .val (.slice none 0 0) else rgV l
theorem optR_ren (ρ : Nat → Nat) (l : List Nat) : (optR l).ren ρ = optR l := by unfold optR; split <;> rfl
attribute [simp] optR_ren
theorem optR_nil : optR [] = .val (.slice none 0 0) := rfl
theorem optR_cons {l : List Nat} {x : Nat} {xs : List Nat} (h : l = x :: xs) : optR l = .imm (nI x :: xs.map nI) := by subst h; rfl
theorem optR_ne {l : List Nat} (h : l ≠ []) : optR l = rgV l := if_neg h
theorem CloneN_ok (l : List Nat) (h0 : 0 < l.length) (hb : l.length ≤ 100000) : ACalls Try.prog 64 [rgV l] [] (fun r o => r = .own 20000 0 l.length ∧ o = [(20000, .row true 3 1 (l.map nI))]) := by
  cases l with
  | nil => simp at h0
  | cons x xs =>
    have := CloneI_ok (x : Int) (xs.map fun (n : Nat) => (n : Int)) (by simp at hb ⊢; omega)
    simp only [ints, List.map_cons, List.map_map, List.length_map, Function.comp_def] at this
    simp only [rgV, List.map_cons, List.length_cons, nI_def]
    exact this
set_option maxHeartbeats 4000000 in
theorem ring_step (ow : List Turn) (lk : List (List Turn)) (held : List Turn) (hv : ValidT ow lk) (hh : held.length = ow.length) (many f m : Nat) (l : List Nat) (hlm : l.length = m + 1) (hl : ∀ y ∈ l, y < ow.length) (hlen : l.length ≤ many) (hmany : many ≤ ow.length) (ih : ∀ l' : List Nat, l'.length = l.length + 1 → (∀ y ∈ l', y < ow.length) → l'.length ≤ many → ACalls Try.prog 62 [rgV l', I many, .ptr 10000 0 0, .ptr 10001 0 0, .ptr 10002 0 0] [(10000, .row false 80 1 [.clo 60 [.ptr 10001 0 0, .ptr 10003 0 0]]), (10001, .row false 25 2 [trade ow lk]), (10002, .row false 81 1 [.clo 62 [.ptr 10000 0 0, .ptr 10001 0 0, .ptr 10002 0 0]]), (10003, .row false 22 1 [turns held])] (fun r o => r = optR (seekP (more ow lk held) ow.length many f l') ∧ o = [(10000, .row false 80 1 [.clo 60 [.ptr 10001 0 0, .ptr 10003 0 0]]), (10001, .row false 25 2 [trade ow lk]), (10002, .row false 81 1 [.clo 62 [.ptr 10000 0 0, .ptr 10001 0 0, .ptr 10002 0 0]]), (10003, .row false 22 1 [turns held])])) : ACalls Try.prog 62 [rgV l, I many, .ptr 10000 0 0, .ptr 10001 0 0, .ptr 10002 0 0] [(10000, .row false 80 1 [.clo 60 [.ptr 10001 0 0, .ptr 10003 0 0]]), (10001, .row false 25 2 [trade ow lk]), (10002, .row false 81 1 [.clo 62 [.ptr 10000 0 0, .ptr 10001 0 0, .ptr 10002 0 0]]), (10003, .row false 22 1 [turns held])] (fun r o => r = optR (seekP (more ow lk held) ow.length many (f + 1) l) ∧ o = [(10000, .row false 80 1 [.clo 60 [.ptr 10001 0 0, .ptr 10003 0 0]]), (10001, .row false 25 2 [trade ow lk]), (10002, .row false 81 1 [.clo 62 [.ptr 10000 0 0, .ptr 10001 0 0, .ptr 10002 0 0]]), (10003, .row false 22 1 [turns held])]) := by
  refine ACalls.enter hΓ Try.func62 rfl (by kernel_rfl) Try.ntmps62 (by rw [Try.results62]) (by simp) (by simp [hlm]; rfl) ?_
  have hn8 : ow.length ≤ 8 := hv.most
  have hm1 : (m : Int) < (m : Int) + 1 := by omega
  have hmy : 0 < many := by omega
  have h0l : 0 < l.length := by omega
  have hml : m < l.length := by omega
  have hs : lk.length = ow.length := hv.same
  have qa : l[m] < ow.length := hl _ (List.getElem_mem hml)
  have qb : l[0] < ow.length := hl _ (List.getElem_mem h0l)
  refine W.regK hΓ [0, 1, 2, 3, 4, 43, 44, 45, 46, 47] (by simp [hlm, hn8, hm1, hmy, h0l, hml, hs]; rfl) ?_
  refine W.regK hΓ [0, 1, 2, 3, 4, 8, 43, 44, 45, 46, 47] (by simp [hlm, hn8, hm1, hmy, h0l, hml, hs]; (try (simp (disch := omega) only [wrap_i64, mul_i64, capOk_of]; (try simp [hlm, hn8, hm1, hmy, h0l, hml, hs]))); rfl) ?_
  refine W.seqk fun K1 hK1 => ?_
  refine W.regK hΓ [0, 1, 2, 3, 4, 8, 20, 43, 44, 45, 46, 47] (by simp [hlm, hn8, hm1, hmy, h0l, hml, hs]; rfl) ?_
  refine W.ite (by simp [hlm, hn8, hm1, hmy, h0l, hml, hs]; first | rfl | exact (Bool.not_not _).symm) (fun hc1 => ?_) (fun hc1 => ?_)
  ·
    try simp at hc1
    refine W.seqk fun K2 hK2 => ?_
    refine W.drawT hm 5 [] (deps := [[], [], [], [2], [2, 3], [3, 2, 4, 1, 0]]) (by rfl) (by rfl) ?_
    refine WDraw.n hΓ 5 0 rfl (by simp [hlm, hn8, hm1, hmy, h0l, hml, hs, hc1]; exact ⟨rfl, rfl, rfl⟩) rfl ?_
    refine WDraw.done (by simp [hlm, hn8, hm1, hmy, h0l, hml, hs, hc1]; rfl) ?_
    refine WOps.call rfl rfl rfl rfl [(10000, 10001), (10001, 10003)] rfl rfl (by decide) (by simp [hlm, hn8, hm1, hmy, h0l, hml, hs, hc1]; first | rfl | exact ⟨rfl, rfl⟩) (by simp [hlm, hn8, hm1, hmy, h0l, hml, hs, hc1]; rfl) ?_
    refine CallT.mk (likes_ok ow lk held l[m] l[0] (by omega) (by omega) (by omega) (by omega)) (by simp [hlm, hn8, hm1, hmy, h0l, hml, hs, hc1]) ?_
    refine WOps.norm (by simp [hlm, hn8, hm1, hmy, h0l, hml, hs, hc1]; rfl) ?_
    refine WOps.endK ?_
    refine W.keep [0, 26] (by simp [hlm, hn8, hm1, hmy, h0l, hml, hs, hc1]; rfl) ?_
    refine W.ite (by simp [hlm, hn8, hm1, hmy, h0l, hml, hs, hc1]; first | rfl | exact (Bool.not_not _).symm) (fun hc2 => ?_) (fun hc2 => ?_)
    ·
      try simp at hc2
      refine W.regK hΓ [7] (by simp [hlm, hn8, hm1, hmy, h0l, hml, hs, hc1, hc2]; rfl) ?_
      refine W.ret ?_
      refine thenQ_r ?_
      clear hK2 K2
      refine thenQ_r ?_
      clear hK1 K1
      refine EndQ.r false [] [(10000, 10000), (10001, 10001), (10002, 10002), (10003, 10003)] (by simp [hlm, hn8, hm1, hmy, h0l, hml, hs, hc1, hc2]; first | rfl | exact ⟨rfl, rfl⟩) ?_
      -- 1 end
      exact ⟨by rw [seekP_full hlm (by omega) hml h0l, if_pos hc2, optR_ne (by intro h; simp [h] at h0l)], rfl⟩
    ·
      try simp at hc2
      refine W.skip ?_
      refine thenQ_n (hK2 _ ?_)
      clear hK2 K2
      refine W.regK hΓ [7] (by simp [hlm, hn8, hm1, hmy, h0l, hml, hs, hc1, hc2]; rfl) ?_
      refine W.ret ?_
      refine thenQ_r ?_
      clear hK1 K1
      refine EndQ.r false [] [(10000, 10000), (10001, 10001), (10002, 10002), (10003, 10003)] (by simp [hlm, hn8, hm1, hmy, h0l, hml, hs, hc1, hc2]; first | rfl | exact ⟨rfl, rfl⟩) ?_
      -- 2 end
      exact ⟨by rw [seekP_full hlm (by omega) hml h0l, if_neg (by simp [hc2])]; rfl, rfl⟩
  ·
    try simp at hc1
    refine W.skip ?_
    refine thenQ_n (hK1 _ ?_)
    clear hK1 K1
    refine W.seqk fun K3 hK3 => ?_
    refine W.regK hΓ [0, 1, 2, 3, 4, 8, 9, 43, 44, 45, 46, 47] (by simp [hlm, hn8, hm1, hmy, h0l, hml, hs, hc1]; (try (simp (disch := omega) only [wrap_i64, mul_i64, capOk_of]; (try simp [hlm, hn8, hm1, hmy, h0l, hml, hs, hc1]))); rfl) ?_
    refine W.block ?_
    refine W.loopU (α := Nat) [0, 1, 2, 3, 4, 8] [35, 41, 46, 51, 53, 54, 56] [] (fun i => [(9, I i)]) (fun i => []) (fun i => i ≤ ow.length ∧ l[0] + 1 ≤ i ∧ seekP (more ow lk held) ow.length many (f + 1) l = firstNE (fun i => if i ∈ l ∨ more ow lk held l[m] i = false then [] else seekP (more ow lk held) ow.length many f (l ++ [i])) (List.range' i (ow.length - i))) (fun i => ow.length - i) (l[0] + 1) rfl (by simp [hlm, hn8, hm1, hmy, h0l, hml, hs, hc1]; rfl) (by simp [hlm, hn8, hm1, hmy, h0l, hml, hs, hc1]; rfl) ?_ ?_ ?_
    ·
      refine Le.fit (by simp [hlm, hn8, hm1, hmy, h0l, hml, hs, hc1]; rfl) (by rfl) (by rfl) (by rfl) ?_ ?_
      ·
        try (simp [hlm, hn8, hm1, hmy, h0l, hml, hs, hc1])
        all_goals (
          -- 3 init.tmps
          first | done | omega | (simp_all; done) | (simp_all; omega)
        )
      ·
        try (simp [hlm, hn8, hm1, hmy, h0l, hml, hs, hc1])
        all_goals (
          -- 4 init.objs
          first | done | omega | (simp_all; done) | (simp_all; omega)
        )
    ·
      -- 5 init.inv
      exact ⟨by omega, by omega, seekP_go hlm (by omega) hml h0l⟩
    ·
      intro i hI0
      simp only [List.cons_append, List.nil_append]
      try dsimp only at hI0
      obtain ⟨hin, hi0, he⟩ := hI0
      refine W.seqk fun K4 hK4 => ?_
      refine W.regK hΓ [0, 1, 2, 3, 4, 8, 9, 36, 43, 44, 45, 46, 47] (by simp [hlm, hn8, hm1, hmy, h0l, hml, hs, hc1, hin, hi0]; rfl) ?_
      refine W.ite (by simp [hlm, hn8, hm1, hmy, h0l, hml, hs, hc1, hin, hi0]; first | rfl | exact (Bool.not_not _).symm) (fun hc3 => ?_) (fun hc3 => ?_)
      ·
        try simp at hc3
        refine W.skip ?_
        refine thenQ_n (hK4 _ ?_)
        clear hK4 K4
        refine W.seqk fun K5 hK5 => ?_
        refine W.block ?_
        refine W.seqk fun K6 hK6 => ?_
        by_cases hil : i ∈ l
        ·
          refine W.seqR ?_
          refine WOps.n hΓ 2 (by simp [hlm, hn8, hm1, hmy, h0l, hml, hs, hc1, hin, hi0, hc3, hil]; first | rfl | exact ⟨rfl, rfl⟩) rfl ?_
          refine WOps.call rfl rfl rfl rfl [] rfl rfl (by decide) (by simp [hlm, hn8, hm1, hmy, h0l, hml, hs, hc1, hin, hi0, hc3, hil]; first | rfl | exact ⟨rfl, rfl⟩) (by simp [hlm, hn8, hm1, hmy, h0l, hml, hs, hc1, hin, hi0, hc3, hil]; rfl) ?_
          refine CallT.mk (ContainsN_ok l i) (by simp [hlm, hn8, hm1, hmy, h0l, hml, hs, hc1, hin, hi0, hc3, hil]) ?_
          refine WOps.norm (by simp [hlm, hn8, hm1, hmy, h0l, hml, hs, hc1, hin, hi0, hc3, hil]; rfl) ?_
          refine WOps.n hΓ 1 (by simp [hlm, hn8, hm1, hmy, h0l, hml, hs, hc1, hin, hi0, hc3, hil]; first | rfl | exact ⟨rfl, rfl⟩) rfl ?_
          refine WOps.gd rfl rfl (by simp [hlm, hn8, hm1, hmy, h0l, hml, hs, hc1, hin, hi0, hc3, hil]; first | rfl | exact (Bool.not_not _).symm) ?_
          (with_reducible refine WG.isF ?_); refine WGf.mk rfl (by simp [hlm, hn8, hm1, hmy, h0l, hml, hs, hc1, hin, hi0, hc3, hil]; rfl) ?_
          refine WOps.gd rfl rfl (by simp [hlm, hn8, hm1, hmy, h0l, hml, hs, hc1, hin, hi0, hc3, hil]; first | rfl | exact (Bool.not_not _).symm) ?_
          (with_reducible refine WG.isF ?_); refine WGf.mk rfl (by simp [hlm, hn8, hm1, hmy, h0l, hml, hs, hc1, hin, hi0, hc3, hil]; rfl) ?_
          refine WOps.gd rfl rfl (by simp [hlm, hn8, hm1, hmy, h0l, hml, hs, hc1, hin, hi0, hc3, hil]; first | rfl | exact (Bool.not_not _).symm) ?_
          (with_reducible refine WG.isF ?_); refine WGf.mk rfl (by simp [hlm, hn8, hm1, hmy, h0l, hml, hs, hc1, hin, hi0, hc3, hil]; rfl) ?_
          refine WOps.gd rfl rfl (by simp [hlm, hn8, hm1, hmy, h0l, hml, hs, hc1, hin, hi0, hc3, hil]; first | rfl | exact (Bool.not_not _).symm) ?_
          (with_reducible refine WG.isF ?_); refine WGf.mk rfl (by simp [hlm, hn8, hm1, hmy, h0l, hml, hs, hc1, hin, hi0, hc3, hil]; rfl) ?_
          refine WOps.gd rfl rfl (by simp [hlm, hn8, hm1, hmy, h0l, hml, hs, hc1, hin, hi0, hc3, hil]; first | rfl | exact (Bool.not_not _).symm) ?_
          (with_reducible refine WG.isF ?_); refine WGf.mk rfl (by simp [hlm, hn8, hm1, hmy, h0l, hml, hs, hc1, hin, hi0, hc3, hil]; rfl) ?_
          refine WOps.n hΓ 1 (by simp [hlm, hn8, hm1, hmy, h0l, hml, hs, hc1, hin, hi0, hc3, hil]; first | rfl | exact ⟨rfl, rfl⟩) rfl ?_
          refine WOps.endK ?_
          refine W.keep [0, 1, 2, 3, 4, 8, 9, 43, 44, 45, 46, 47, 48] (by simp [hlm, hn8, hm1, hmy, h0l, hml, hs, hc1, hin, hi0, hc3, hil]; rfl) ?_
          refine W.cond (t := true) (by simp [hlm, hn8, hm1, hmy, h0l, hml, hs, hc1, hin, hi0, hc3, hil]) ?_
          simp only [if_true, Bool.false_eq_true, if_false]
          refine W.exit ?_
          refine thenQ_e ?_
          clear hK6 K6
          refine blockQ_s ?_
          refine thenQ_n (hK5 _ ?_)
          clear hK5 K5
          refine W.regE hΓ (by simp [hlm, hn8, hm1, hmy, h0l, hml, hs, hc1, hin, hi0, hc3, hil]; (try (simp (disch := omega) only [wrap_i64, mul_i64, capOk_of]; (try simp [hlm, hn8, hm1, hmy, h0l, hml, hs, hc1, hin, hi0, hc3, hil]))); rfl) ?_
          refine ⟨i + 1, Le.fit (by simp [hlm, hn8, hm1, hmy, h0l, hml, hs, hc1, hin, hi0, hc3, hil]; rfl) (by rfl) (by rfl) (by rfl) ?_ ?_, ?_, ?_⟩
          ·
            try (simp [hlm, hn8, hm1, hmy, h0l, hml, hs, hc1, hin, hi0, hc3, hil])
            all_goals (
              -- 6 back.tmps
              first | done | omega | (simp_all; done) | (simp_all; omega)
            )
          ·
            try (simp [hlm, hn8, hm1, hmy, h0l, hml, hs, hc1, hin, hi0, hc3, hil])
            all_goals (
              -- 7 back.objs
              first | done | omega | (simp_all; done) | (simp_all; omega)
            )
          ·
            -- 8 back.inv
            exact ⟨by omega, by omega, by rw [he, firstNE_skip hc3 (by simp_all)]⟩
          ·
            -- 9 back.meas
            first | done | omega | (simp_all; done) | (simp_all; omega)
        ·
          refine W.seqR ?_
          refine WOps.n hΓ 2 (by simp [hlm, hn8, hm1, hmy, h0l, hml, hs, hc1, hin, hi0, hc3, hil]; first | rfl | exact ⟨rfl, rfl⟩) rfl ?_
          refine WOps.call rfl rfl rfl rfl [] rfl rfl (by decide) (by simp [hlm, hn8, hm1, hmy, h0l, hml, hs, hc1, hin, hi0, hc3, hil]; first | rfl | exact ⟨rfl, rfl⟩) (by simp [hlm, hn8, hm1, hmy, h0l, hml, hs, hc1, hin, hi0, hc3, hil]; rfl) ?_
          refine CallT.mk (ContainsN_ok l i) (by simp [hlm, hn8, hm1, hmy, h0l, hml, hs, hc1, hin, hi0, hc3, hil]) ?_
          refine WOps.norm (by simp [hlm, hn8, hm1, hmy, h0l, hml, hs, hc1, hin, hi0, hc3, hil]; rfl) ?_
          refine WOps.n hΓ 1 (by simp [hlm, hn8, hm1, hmy, h0l, hml, hs, hc1, hin, hi0, hc3, hil]; first | rfl | exact ⟨rfl, rfl⟩) rfl ?_
          refine WOps.gd rfl rfl (by simp [hlm, hn8, hm1, hmy, h0l, hml, hs, hc1, hin, hi0, hc3, hil]; first | rfl | exact (Bool.not_not _).symm) ?_
          (with_reducible refine WG.isT ?_); refine WGt.mk hΓ rfl (by simp [hlm, hn8, hm1, hmy, h0l, hml, hs, hc1, hin, hi0, hc3, hil]; first | rfl | exact ⟨rfl, rfl⟩) (by simp [hlm, hn8, hm1, hmy, h0l, hml, hs, hc1, hin, hi0, hc3, hil]; rfl) ?_
          refine WOps.gd rfl rfl (by simp [hlm, hn8, hm1, hmy, h0l, hml, hs, hc1, hin, hi0, hc3, hil]; first | rfl | exact (Bool.not_not _).symm) ?_
          (with_reducible refine WG.isT ?_); refine WGt.mk hΓ rfl (by simp [hlm, hn8, hm1, hmy, h0l, hml, hs, hc1, hin, hi0, hc3, hil]; first | rfl | exact ⟨rfl, rfl⟩) (by simp [hlm, hn8, hm1, hmy, h0l, hml, hs, hc1, hin, hi0, hc3, hil]; rfl) ?_
          refine WOps.gd rfl rfl (by simp [hlm, hn8, hm1, hmy, h0l, hml, hs, hc1, hin, hi0, hc3, hil]; first | rfl | exact (Bool.not_not _).symm) ?_
          (with_reducible refine WG.isT ?_); refine WGt.mk hΓ rfl (by simp [hlm, hn8, hm1, hmy, h0l, hml, hs, hc1, hin, hi0, hc3, hil]; first | rfl | exact ⟨rfl, rfl⟩) (by simp [hlm, hn8, hm1, hmy, h0l, hml, hs, hc1, hin, hi0, hc3, hil]; rfl) ?_
          refine WOps.gd rfl rfl (by simp [hlm, hn8, hm1, hmy, h0l, hml, hs, hc1, hin, hi0, hc3, hil]; first | rfl | exact (Bool.not_not _).symm) ?_
          (with_reducible refine WG.isT ?_)
          refine WGt.call rfl rfl rfl [(10000, 10001), (10001, 10003)] rfl rfl (by decide) (by simp [hlm, hn8, hm1, hmy, h0l, hml, hs, hc1, hin, hi0, hc3, hil]; first | rfl | exact ⟨rfl, rfl⟩) (by simp [hlm, hn8, hm1, hmy, h0l, hml, hs, hc1, hin, hi0, hc3, hil]; rfl) ?_
          refine CallT.mk (likes_ok ow lk held l[m] i (by omega) (by omega) (by omega) (by omega)) (by simp [hlm, hn8, hm1, hmy, h0l, hml, hs, hc1, hin, hi0, hc3, hil]) ?_
          refine WOps.norm (by simp [hlm, hn8, hm1, hmy, h0l, hml, hs, hc1, hin, hi0, hc3, hil]; rfl) ?_
          refine WOps.gd rfl rfl (by simp [hlm, hn8, hm1, hmy, h0l, hml, hs, hc1, hin, hi0, hc3, hil]; first | rfl | exact (Bool.not_not _).symm) ?_
          (with_reducible refine WG.isT ?_); refine WGt.mk hΓ rfl (by simp [hlm, hn8, hm1, hmy, h0l, hml, hs, hc1, hin, hi0, hc3, hil]; first | rfl | exact ⟨rfl, rfl⟩) (by simp [hlm, hn8, hm1, hmy, h0l, hml, hs, hc1, hin, hi0, hc3, hil]; rfl) ?_
          refine WOps.n hΓ 1 (by simp [hlm, hn8, hm1, hmy, h0l, hml, hs, hc1, hin, hi0, hc3, hil]; first | rfl | exact ⟨rfl, rfl⟩) rfl ?_
          refine WOps.endK ?_
          refine W.keep [0, 1, 2, 3, 4, 8, 9, 43, 44, 45, 46, 47, 48] (by simp [hlm, hn8, hm1, hmy, h0l, hml, hs, hc1, hin, hi0, hc3, hil]; rfl) ?_
          refine W.ite (by simp [hlm, hn8, hm1, hmy, h0l, hml, hs, hc1, hin, hi0, hc3, hil]; first | rfl | exact (Bool.not_not _).symm) (fun hc5 => ?_) (fun hc5 => ?_)
          ·
            try simp at hc5
            refine W.exit ?_
            refine thenQ_e ?_
            clear hK6 K6
            refine blockQ_s ?_
            refine thenQ_n (hK5 _ ?_)
            clear hK5 K5
            refine W.regE hΓ (by simp [hlm, hn8, hm1, hmy, h0l, hml, hs, hc1, hin, hi0, hc3, hil, hc5]; (try (simp (disch := omega) only [wrap_i64, mul_i64, capOk_of]; (try simp [hlm, hn8, hm1, hmy, h0l, hml, hs, hc1, hin, hi0, hc3, hil, hc5]))); rfl) ?_
            refine ⟨i + 1, Le.fit (by simp [hlm, hn8, hm1, hmy, h0l, hml, hs, hc1, hin, hi0, hc3, hil, hc5]; rfl) (by rfl) (by rfl) (by rfl) ?_ ?_, ?_, ?_⟩
            ·
              try (simp [hlm, hn8, hm1, hmy, h0l, hml, hs, hc1, hin, hi0, hc3, hil, hc5])
              all_goals (
                -- 10 back.tmps
                first | done | omega | (simp_all; done) | (simp_all; omega)
              )
            ·
              try (simp [hlm, hn8, hm1, hmy, h0l, hml, hs, hc1, hin, hi0, hc3, hil, hc5])
              all_goals (
                -- 11 back.objs
                first | done | omega | (simp_all; done) | (simp_all; omega)
              )
            ·
              -- 12 back.inv
              exact ⟨by omega, by omega, by rw [he, firstNE_skip hc3 (by simp_all)]⟩
            ·
              -- 13 back.meas
              first | done | omega | (simp_all; done) | (simp_all; omega)
          ·
            try simp at hc5
            refine W.skip ?_
            refine thenQ_n (hK6 _ ?_)
            clear hK6 K6
            have htk : List.take (m + 1 + 1) (List.map nI l ++ [I (i : Int)]) = List.map nI l ++ [I (i : Int)] := List.take_of_length_le (by simp; omega)
            have ihh := ih (l ++ [i]) (by simp) (by intro y hy; rcases List.mem_append.1 hy with h | h; exact hl y h; simp at h; omega) (by simp; omega)
            simp only [rgV, List.map_append, List.map_cons, List.map_nil, nI_def] at ihh
            refine W.drawT hm 7 [(5, [408])] (deps := [[], [], [1], [], [3], [3, 4, 1, 2], [], [6, 2, 1, 4, 3, 5, 0], [0, 5, 3, 4, 1, 2, 6, 7]]) (by rfl) (by rfl) ?_
            refine WDraw.n hΓ 2 5 rfl (by simp [hlm, hn8, hm1, hmy, h0l, hml, hs, hc1, hin, hi0, hc3, hil, hc5, htk]; exact ⟨rfl, rfl, rfl⟩) rfl ?_
            refine WDraw.callD (by simp [hlm, hn8, hm1, hmy, h0l, hml, hs, hc1, hin, hi0, hc3, hil, hc5, htk]; rfl) rfl rfl rfl [] rfl (by simp [hlm, hn8, hm1, hmy, h0l, hml, hs, hc1, hin, hi0, hc3, hil, hc5, htk]; first | rfl | exact ⟨rfl, rfl⟩) (by simp [hlm, hn8, hm1, hmy, h0l, hml, hs, hc1, hin, hi0, hc3, hil, hc5, htk]; rfl) rfl rfl (.inl rfl) ?_
            refine CallD.mk (CloneN_ok l (by omega) (by omega)) (by simp [hlm, hn8, hm1, hmy, h0l, hml, hs, hc1, hin, hi0, hc3, hil, hc5, htk]) ⟨(by simp [hlm, hn8, hm1, hmy, h0l, hml, hs, hc1, hin, hi0, hc3, hil, hc5, htk]), _, (by simp [hlm, hn8, hm1, hmy, h0l, hml, hs, hc1, hin, hi0, hc3, hil, hc5, htk]; rfl), ?_⟩
            refine WDraw.n hΓ 2 2 rfl (by simp [hlm, hn8, hm1, hmy, h0l, hml, hs, hc1, hin, hi0, hc3, hil, hc5, htk]; exact ⟨rfl, rfl, rfl⟩) rfl ?_
            refine WDraw.app hΓ [408] (by simp [hlm, hn8, hm1, hmy, h0l, hml, hs, hc1, hin, hi0, hc3, hil, hc5, htk]; rfl) (by first | rfl | simp) (by simp [hlm, hn8, hm1, hmy, h0l, hml, hs, hc1, hin, hi0, hc3, hil, hc5, htk]; (try (simp (disch := omega) only [wrap_i64, mul_i64, capOk_of]; (try simp [hlm, hn8, hm1, hmy, h0l, hml, hs, hc1, hin, hi0, hc3, hil, hc5, htk]))); first | rfl | exact ⟨rfl, rfl⟩) (by first | rfl | simp) (by simp [hlm, hn8, hm1, hmy, h0l, hml, hs, hc1, hin, hi0, hc3, hil, hc5, htk]; first | done | rfl) (.inr (by simp)) (by simp [hlm, hn8, hm1, hmy, h0l, hml, hs, hc1, hin, hi0, hc3, hil, hc5, htk]; rfl) ?_
            refine WDraw.n hΓ 1 0 rfl (by simp [hlm, hn8, hm1, hmy, h0l, hml, hs, hc1, hin, hi0, hc3, hil, hc5, htk]; exact ⟨rfl, rfl, rfl⟩) rfl ?_
            refine WDraw.done (by simp [hlm, hn8, hm1, hmy, h0l, hml, hs, hc1, hin, hi0, hc3, hil, hc5, htk]; rfl) ?_
            refine WOps.le (Le.freeze (id := 432) (by simp [hlm, hn8, hm1, hmy, h0l, hml, hs, hc1, hin, hi0, hc3, hil, hc5, htk]; rfl)) rfl rfl ?_
            refine WOps.call rfl rfl rfl rfl [(10000, 10000), (10001, 10001), (10002, 10002), (10003, 10003)] rfl rfl (by decide) (by simp [hlm, hn8, hm1, hmy, h0l, hml, hs, hc1, hin, hi0, hc3, hil, hc5, htk]; first | rfl | exact ⟨rfl, rfl⟩) (by simp [hlm, hn8, hm1, hmy, h0l, hml, hs, hc1, hin, hi0, hc3, hil, hc5, htk]; rfl) ?_
            refine CallT.mk (ihh) (by simp [hlm, hn8, hm1, hmy, h0l, hml, hs, hc1, hin, hi0, hc3, hil, hc5, htk]) ?_
            refine WOps.norm (by simp [hlm, hn8, hm1, hmy, h0l, hml, hs, hc1, hin, hi0, hc3, hil, hc5, htk]; rfl) ?_
            refine WOps.n hΓ 1 (by simp [hlm, hn8, hm1, hmy, h0l, hml, hs, hc1, hin, hi0, hc3, hil, hc5, htk]; first | rfl | exact ⟨rfl, rfl⟩) rfl ?_
            refine WOps.endK ?_
            refine W.keep [0, 1, 2, 3, 4, 8, 9, 10, 43, 44, 45, 46, 47] (by simp [hlm, hn8, hm1, hmy, h0l, hml, hs, hc1, hin, hi0, hc3, hil, hc5, htk]; rfl) ?_
            by_cases hsk : seekP (more ow lk held) ow.length many f (l ++ [i]) = []
            ·
              have hopt : optR (seekP (more ow lk held) ow.length many f (l ++ [i])) = .val (.slice none 0 0) := by rw [hsk]; rfl
              refine W.regK hΓ [0, 1, 2, 3, 4, 8, 9, 10, 43, 44, 45, 46, 47, 58] (by simp [hlm, hn8, hm1, hmy, h0l, hml, hs, hc1, hin, hi0, hc3, hil, hc5, htk, hsk, hopt]; rfl) ?_
              refine W.cond (t := false) (by simp [hlm, hn8, hm1, hmy, h0l, hml, hs, hc1, hin, hi0, hc3, hil, hc5, htk, hsk, hopt]) ?_
              simp only [if_true, Bool.false_eq_true, if_false]
              refine W.skip ?_
              refine blockQ_n ?_
              refine thenQ_n (hK5 _ ?_)
              clear hK5 K5
              refine W.regE hΓ (by simp [hlm, hn8, hm1, hmy, h0l, hml, hs, hc1, hin, hi0, hc3, hil, hc5, htk, hsk, hopt]; (try (simp (disch := omega) only [wrap_i64, mul_i64, capOk_of]; (try simp [hlm, hn8, hm1, hmy, h0l, hml, hs, hc1, hin, hi0, hc3, hil, hc5, htk, hsk, hopt]))); rfl) ?_
              refine ⟨i + 1, Le.fit (by simp [hlm, hn8, hm1, hmy, h0l, hml, hs, hc1, hin, hi0, hc3, hil, hc5, htk, hsk, hopt]; rfl) (by rfl) (by rfl) (by rfl) ?_ ?_, ?_, ?_⟩
              ·
                try (simp [hlm, hn8, hm1, hmy, h0l, hml, hs, hc1, hin, hi0, hc3, hil, hc5, htk, hsk, hopt])
                all_goals (
                  -- 14 back.tmps
                  first | done | omega | (simp_all; done) | (simp_all; omega)
                )
              ·
                try (simp [hlm, hn8, hm1, hmy, h0l, hml, hs, hc1, hin, hi0, hc3, hil, hc5, htk, hsk, hopt])
                all_goals (
                  -- 15 back.objs
                  first | done | omega | (simp_all; done) | (simp_all; omega)
                )
              ·
                -- 16 back.inv
                exact ⟨by omega, by omega, by rw [he, firstNE_skip hc3 (by simp_all)]⟩
              ·
                -- 17 back.meas
                first | done | omega | (simp_all; done) | (simp_all; omega)
            ·
              obtain ⟨q0, q1, qq⟩ := List.exists_cons_of_ne_nil hsk
              have hopt := optR_cons qq
              refine W.regK hΓ [0, 1, 2, 3, 4, 8, 9, 10, 43, 44, 45, 46, 47, 58] (by simp [hlm, hn8, hm1, hmy, h0l, hml, hs, hc1, hin, hi0, hc3, hil, hc5, htk, hsk, hopt]; rfl) ?_
              refine W.cond (t := true) (by simp [hlm, hn8, hm1, hmy, h0l, hml, hs, hc1, hin, hi0, hc3, hil, hc5, htk, hsk, hopt]) ?_
              simp only [if_true, Bool.false_eq_true, if_false]
              refine W.regK hΓ [7] (by simp [hlm, hn8, hm1, hmy, h0l, hml, hs, hc1, hin, hi0, hc3, hil, hc5, htk, hsk, hopt]; rfl) ?_
              refine W.ret ?_
              refine blockQ_r ?_
              refine thenQ_r ?_
              clear hK5 K5
              refine thenQ_r ?_
              refine blockQ_r ?_
              refine thenQ_r ?_
              clear hK3 K3
              refine EndQ.r false [] [(10000, 10000), (10001, 10001), (10002, 10002), (10003, 10003)] (by simp [hlm, hn8, hm1, hmy, h0l, hml, hs, hc1, hin, hi0, hc3, hil, hc5, htk, hsk, hopt]; first | rfl | exact ⟨rfl, rfl⟩) ?_
              -- 18 end
              exact ⟨by rw [he, firstNE_hit hc3 (by simp [hil, hc5, hsk])]; simp only [hil, hc5]; simp [hopt], rfl⟩
      ·
        try simp at hc3
        refine W.exit ?_
        refine thenQ_e ?_
        clear hK4 K4
        refine thenQ_e ?_
        refine blockQ_s ?_
        refine thenQ_n (hK3 _ ?_)
        clear hK3 K3
        refine W.regK hΓ [7] (by simp [hlm, hn8, hm1, hmy, h0l, hml, hs, hc1, hin, hi0, hc3]; rfl) ?_
        refine W.ret ?_
        refine EndQ.r false [] [(10000, 10000), (10001, 10001), (10002, 10002), (10003, 10003)] (by simp [hlm, hn8, hm1, hmy, h0l, hml, hs, hc1, hin, hi0, hc3]; first | rfl | exact ⟨rfl, rfl⟩) ?_
        -- 19 end
        exact ⟨by rw [he, firstNE_done (by omega)]; rfl, rfl⟩
theorem ring_ok (ow : List Turn) (lk : List (List Turn)) (held : List Turn) (hv : ValidT ow lk) (hh : held.length = ow.length) (many : Nat) (hmany : many ≤ ow.length) : ∀ (f : Nat) (l : List Nat), 1 ≤ l.length → (∀ y ∈ l, y < ow.length) → l.length ≤ many → many < f + l.length →
    ACalls Try.prog 62 [rgV l, I many, .ptr 10000 0 0, .ptr 10001 0 0, .ptr 10002 0 0] [(10000, .row false 80 1 [.clo 60 [.ptr 10001 0 0, .ptr 10003 0 0]]), (10001, .row false 25 2 [trade ow lk]), (10002, .row false 81 1 [.clo 62 [.ptr 10000 0 0, .ptr 10001 0 0, .ptr 10002 0 0]]), (10003, .row false 22 1 [turns held])] (fun r o => r = optR (seekP (more ow lk held) ow.length many f l) ∧ o = [(10000, .row false 80 1 [.clo 60 [.ptr 10001 0 0, .ptr 10003 0 0]]), (10001, .row false 25 2 [trade ow lk]), (10002, .row false 81 1 [.clo 62 [.ptr 10000 0 0, .ptr 10001 0 0, .ptr 10002 0 0]]), (10003, .row false 22 1 [turns held])])
  | 0, l, _, _, h, h' => by omega
  | f + 1, l, h1, h2, h3, h4 => ring_step ow lk held hv hh many f (l.length - 1) l (by omega) h2 h3 hmany fun l' e1 e2 e3 => ring_ok ow lk held hv hh many hmany f l' (by omega) e2 e3 (by omega)
/-- the first ring of so many that pleases -/
def pleaseM (lkf : Nat → Nat → Bool) (n many : Nat) : List Nat := firstNE (fun i => seekP lkf n many many [i]) (List.range' 0 (n - 0))
def pleaseL (lkf : Nat → Nat → Bool) (n : Nat) : List Nat := firstNE (fun many => pleaseM lkf n many) (List.range' 2 (n + 1 - 2))
def pleaseT (ow : List Turn) (lk : List (List Turn)) (held : List Turn) : List Nat := if heldT ow lk held = 0 then pleaseL (more ow lk held) ow.length else []
theorem heldT_valid {ow : List Turn} {lk : List (List Turn)} {held : List Turn} (h : heldT ow lk held = 0) : ValidT ow lk ∧ held.length = ow.length := by
  unfold heldT at h
  split at h
  · rename_i h1; exact absurd h h1
  · split at h
    · cases h
    · rename_i h1 h2
      exact ⟨checkT_zero.1 (by omega), by omega⟩
set_option maxHeartbeats 4000000 in
theorem Pleases_ok (ow : List Turn) (lk : List (List Turn)) (held : List Turn) (hwf : ValidT ow lk → ∀ x ∈ held, WfT x) : ACalls Try.prog 30 [trade ow lk, turns held] [] (fun r o => r = .tup [rgV (pleaseT ow lk held), I (heldT ow lk held)] ∧ o = []) := by
  refine ACalls.enter hΓ Try.func30 rfl (by kernel_rfl) Try.ntmps30 (by rw [Try.results30]) (by simp) (by simp; rfl) ?_
  refine W.regK hΓ [2, 3] (by simp; rfl) ?_
  refine W.seqk fun K1 hK1 => ?_
  refine W.seqR ?_
  refine WOps.n hΓ 2 (by simp; first | rfl | exact ⟨rfl, rfl⟩) rfl ?_
  refine WOps.call rfl rfl rfl rfl [] rfl rfl (by decide) (by simp; first | rfl | exact ⟨rfl, rfl⟩) (by simp; rfl) ?_
  refine CallT.mk (CheckHeld_ok _ _ _ (by assumption)) (by simp) ?_
  refine WOps.norm (by simp; rfl) ?_
  refine WOps.n hΓ 1 (by simp; first | rfl | exact ⟨rfl, rfl⟩) rfl ?_
  refine WOps.endK ?_
  refine W.keep [2, 3, 6] (by simp; rfl) ?_
  refine W.regK hΓ [2, 3, 6, 16] (by simp; rfl) ?_
  refine W.ite (by simp; first | rfl | exact (Bool.not_not _).symm) (fun hc1 => ?_) (fun hc1 => ?_)
  ·
    try simp at hc1
    refine W.regK hΓ [4, 5] (by simp [hc1]; rfl) ?_
    refine W.ret ?_
    refine thenQ_r ?_
    clear hK1 K1
    refine EndQ.r true [] [] (by simp [hc1]; first | rfl | exact ⟨rfl, rfl⟩) ?_
    -- 1 end
    exact ⟨by rw [pleaseT, if_neg hc1]; rfl, rfl⟩
  ·
    try simp at hc1
    obtain ⟨hv, hh⟩ := heldT_valid (by simpa using hc1)
    have hn8 : ow.length ≤ 8 := hv.most
    have hz : heldT ow lk held = 0 := by simpa using hc1
    refine W.skip ?_
    refine thenQ_n (hK1 _ ?_)
    clear hK1 K1
    refine W.regK hΓ [2, 7] (by simp [hc1, hn8, hz]; rfl) ?_
    refine W.regK hΓ [2, 7, 8] (by simp [hc1, hn8, hz]; rfl) ?_
    refine W.regK hΓ [2, 8] (by simp [hc1, hn8, hz]; rfl) ?_
    refine W.seqk fun K2 hK2 => ?_
    refine W.regK hΓ [2, 8, 9] (by simp [hc1, hn8, hz]; rfl) ?_
    refine W.block ?_
    refine W.loopU (α := Nat) [2, 8] [23, 29, 35, 37] [] (fun many => [(9, I many)]) (fun many => []) (fun many => 2 ≤ many ∧ (many ≤ ow.length + 1 ∨ many = 2) ∧ pleaseL (more ow lk held) ow.length = firstNE (fun many => pleaseM (more ow lk held) ow.length many) (List.range' many (ow.length + 1 - many))) (fun many => ow.length + 1 - many) 2 rfl (by simp [hc1, hn8, hz]; rfl) (by simp [hc1, hn8, hz]; rfl) ?_ ?_ ?_
    ·
      refine Le.fit (by simp [hc1, hn8, hz]; rfl) (by rfl) (by rfl) (by rfl) ?_ ?_
      ·
        try (simp [hc1, hn8, hz])
        all_goals (
          -- 2 init.tmps
          first | done | omega | (simp_all; done) | (simp_all; omega)
        )
      ·
        try (simp [hc1, hn8, hz])
        all_goals (
          -- 3 init.objs
          first | done | omega | (simp_all; done) | (simp_all; omega)
        )
    ·
      -- 4 init.inv
      exact ⟨by omega, by omega, rfl⟩
    ·
      intro many hI0
      simp only [List.cons_append, List.nil_append]
      try dsimp only at hI0
      obtain ⟨hm2, hmn, he⟩ := hI0
      refine W.seqk fun K3 hK3 => ?_
      refine W.regK hΓ [2, 8, 9, 24] (by simp [hc1, hn8, hz, hm2]; rfl) ?_
      refine W.ite (by simp [hc1, hn8, hz, hm2]; first | rfl | exact (Bool.not_not _).symm) (fun hc2 => ?_) (fun hc2 => ?_)
      ·
        try simp at hc2
        refine W.skip ?_
        refine thenQ_n (hK3 _ ?_)
        clear hK3 K3
        refine W.seqk fun K4 hK4 => ?_
        refine W.block ?_
        refine W.regK hΓ [2, 8, 9, 29, 30] (by simp [hc1, hn8, hz, hm2, hc2]; rfl) ?_
        refine W.block ?_
        refine W.loopU (α := Nat) [2, 8, 9, 29] [35, 37] [] (fun i => [(30, I i)]) (fun i => []) (fun i => i ≤ ow.length ∧ pleaseM (more ow lk held) ow.length many = firstNE (fun i => seekP (more ow lk held) ow.length many many [i]) (List.range' i (ow.length - i))) (fun i => ow.length - i) 0 rfl (by simp [hc1, hn8, hz, hm2, hc2]; rfl) (by simp [hc1, hn8, hz, hm2, hc2]; rfl) ?_ ?_ ?_
        ·
          refine Le.fit (by simp [hc1, hn8, hz, hm2, hc2]; rfl) (by rfl) (by rfl) (by rfl) ?_ ?_
          ·
            try (simp [hc1, hn8, hz, hm2, hc2])
            all_goals (
              -- 5 init.tmps
              first | done | omega | (simp_all; done) | (simp_all; omega)
            )
          ·
            try (simp [hc1, hn8, hz, hm2, hc2])
            all_goals (
              -- 6 init.objs
              first | done | omega | (simp_all; done) | (simp_all; omega)
            )
        ·
          -- 7 init.inv
          exact ⟨by omega, rfl⟩
        ·
          intro i hI1
          simp only [List.cons_append, List.nil_append]
          try dsimp only at hI1
          obtain ⟨hin, he2⟩ := hI1
          refine W.regK hΓ [2, 8, 9, 29, 30, 31] (by simp [hc1, hn8, hz, hm2, hc2, hin]; rfl) ?_
          refine W.seqk fun K5 hK5 => ?_
          refine W.ite (by simp [hc1, hn8, hz, hm2, hc2, hin]; first | rfl | exact (Bool.not_not _).symm) (fun hc3 => ?_) (fun hc3 => ?_)
          ·
            try simp at hc3
            refine W.skip ?_
            refine thenQ_n (hK5 _ ?_)
            clear hK5 K5
            refine W.seqk fun K6 hK6 => ?_
            refine W.block ?_
            refine W.regK hΓ [2, 8, 9, 10, 29, 30] (by simp [hc1, hn8, hz, hm2, hc2, hin, hc3]; rfl) ?_
            refine W.seqR ?_
            refine WOps.n hΓ 4 (by simp [hc1, hn8, hz, hm2, hc2, hin, hc3]; first | rfl | exact ⟨rfl, rfl⟩) rfl ?_
            refine WOps.le (Le.freeze (id := 280) (by simp [hc1, hn8, hz, hm2, hc2, hin, hc3]; rfl)) rfl rfl ?_
            refine WOps.call rfl rfl rfl rfl [(10000, 56), (10001, 16), (10002, 64), (10003, 24)] rfl rfl (by decide) (by simp [hc1, hn8, hz, hm2, hc2, hin, hc3]; first | rfl | exact ⟨rfl, rfl⟩) (by simp [hc1, hn8, hz, hm2, hc2, hin, hc3]; rfl) ?_
            refine CallT.mk (ring_ok ow lk held hv hh many (by omega) many [i] (by simp) (by simpa using hc3) (by simp; omega) (by simp)) (by simp [hc1, hn8, hz, hm2, hc2, hin, hc3]) ?_
            refine WOps.norm (by simp [hc1, hn8, hz, hm2, hc2, hin, hc3]; rfl) ?_
            refine WOps.n hΓ 1 (by simp [hc1, hn8, hz, hm2, hc2, hin, hc3]; first | rfl | exact ⟨rfl, rfl⟩) rfl ?_
            refine WOps.endK ?_
            refine W.keep [2, 8, 9, 11, 29, 30] (by simp [hc1, hn8, hz, hm2, hc2, hin, hc3]; rfl) ?_
            by_cases hsk : seekP (more ow lk held) ow.length many many [i] = []
            ·
              have hopt : optR (seekP (more ow lk held) ow.length many many [i]) = .val (.slice none 0 0) := by rw [hsk]; rfl
              refine W.regK hΓ [2, 8, 9, 11, 29, 30, 39] (by simp [hc1, hn8, hz, hm2, hc2, hin, hc3, hsk, hopt]; rfl) ?_
              refine W.cond (t := false) (by simp [hc1, hn8, hz, hm2, hc2, hin, hc3, hsk, hopt]) ?_
              simp only [if_true, Bool.false_eq_true, if_false]
              refine W.skip ?_
              refine blockQ_n ?_
              refine thenQ_n (hK6 _ ?_)
              clear hK6 K6
              refine W.regE hΓ (by simp [hc1, hn8, hz, hm2, hc2, hin, hc3, hsk, hopt]; (try (simp (disch := omega) only [wrap_i64, mul_i64, capOk_of]; (try simp [hc1, hn8, hz, hm2, hc2, hin, hc3, hsk, hopt]))); rfl) ?_
              refine ⟨i + 1, Le.fit (by simp [hc1, hn8, hz, hm2, hc2, hin, hc3, hsk, hopt]; rfl) (by rfl) (by rfl) (by rfl) ?_ ?_, ?_, ?_⟩
              ·
                try (simp [hc1, hn8, hz, hm2, hc2, hin, hc3, hsk, hopt])
                all_goals (
                  -- 8 back.tmps
                  first | done | omega | (simp_all; done) | (simp_all; omega)
                )
              ·
                try (simp [hc1, hn8, hz, hm2, hc2, hin, hc3, hsk, hopt])
                all_goals (
                  -- 9 back.objs
                  first | done | omega | (simp_all; done) | (simp_all; omega)
                )
              ·
                -- 10 back.inv
                exact ⟨by omega, by rw [he2, firstNE_skip hc3 hsk]⟩
              ·
                -- 11 back.meas
                first | done | omega | (simp_all; done) | (simp_all; omega)
            ·
              obtain ⟨q0, q1, qq⟩ := List.exists_cons_of_ne_nil hsk
              have hopt := optR_cons qq
              refine W.regK hΓ [2, 8, 9, 11, 29, 30, 39] (by simp [hc1, hn8, hz, hm2, hc2, hin, hc3, hsk, hopt]; rfl) ?_
              refine W.cond (t := true) (by simp [hc1, hn8, hz, hm2, hc2, hin, hc3, hsk, hopt]) ?_
              simp only [if_true, Bool.false_eq_true, if_false]
              refine W.regK hΓ [4, 5] (by simp [hc1, hn8, hz, hm2, hc2, hin, hc3, hsk, hopt]; rfl) ?_
              refine W.ret ?_
              refine blockQ_r ?_
              refine thenQ_r ?_
              clear hK6 K6
              refine thenQ_r ?_
              refine blockQ_r ?_
              refine blockQ_r ?_
              refine thenQ_r ?_
              clear hK4 K4
              refine thenQ_r ?_
              refine blockQ_r ?_
              refine thenQ_r ?_
              clear hK2 K2
              refine EndQ.r true [] [] (by simp [hc1, hn8, hz, hm2, hc2, hin, hc3, hsk, hopt]; first | rfl | exact ⟨rfl, rfl⟩) ?_
              -- 12 end
              exact ⟨by rw [pleaseT, if_pos hz, he, firstNE_hit (by omega) (by rw [he2, firstNE_hit hc3 hsk]; exact hsk), he2, firstNE_hit hc3 hsk, qq, hz]; rfl, rfl⟩
          ·
            try simp at hc3
            refine W.exit ?_
            refine thenQ_e ?_
            clear hK5 K5
            refine thenQ_e ?_
            refine blockQ_s ?_
            refine blockQ_n ?_
            refine thenQ_n (hK4 _ ?_)
            clear hK4 K4
            refine W.regE hΓ (by simp [hc1, hn8, hz, hm2, hc2, hin, hc3]; (try (simp (disch := omega) only [wrap_i64, mul_i64, capOk_of]; (try simp [hc1, hn8, hz, hm2, hc2, hin, hc3]))); rfl) ?_
            refine ⟨many + 1, Le.fit (by simp [hc1, hn8, hz, hm2, hc2, hin, hc3]; rfl) (by rfl) (by rfl) (by rfl) ?_ ?_, ?_, ?_⟩
            ·
              try (simp [hc1, hn8, hz, hm2, hc2, hin, hc3])
              all_goals (
                -- 13 back.tmps
                first | done | omega | (simp_all; done) | (simp_all; omega)
              )
            ·
              try (simp [hc1, hn8, hz, hm2, hc2, hin, hc3])
              all_goals (
                -- 14 back.objs
                first | done | omega | (simp_all; done) | (simp_all; omega)
              )
            ·
              -- 15 back.inv
              exact ⟨by omega, by omega, by rw [he, firstNE_skip (by omega) (by rw [he2, firstNE_done (by omega)])]⟩
            ·
              -- 16 back.meas
              first | done | omega | (simp_all; done) | (simp_all; omega)
      ·
        try simp at hc2
        refine W.exit ?_
        refine thenQ_e ?_
        clear hK3 K3
        refine thenQ_e ?_
        refine blockQ_s ?_
        refine thenQ_n (hK2 _ ?_)
        clear hK2 K2
        refine W.regK hΓ [4, 5] (by simp [hc1, hn8, hz, hm2, hc2]; rfl) ?_
        refine W.ret ?_
        refine EndQ.r true [] [] (by simp [hc1, hn8, hz, hm2, hc2]; first | rfl | exact ⟨rfl, rfl⟩) ?_
        -- 17 end
        exact ⟨by rw [pleaseT, if_pos hz, he, firstNE_done (by omega), hz]; rfl, rfl⟩
end Go.Sim
