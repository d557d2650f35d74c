/- Copies, comparisons, dice. -/
import Derived.Test.YtggbbldoopfejaaVa
namespace Go.Sim
open Go.Proofs
set_option maxRecDepth 100000
set_option linter.unusedSimpArgs false
attribute [-simp] List.map_set
abbrev tabs (l : List (List Int)) : AV := .imm (l.map ints)
abbrev tlists (l : List (List Turn)) : AV := .imm (l.map turns)
abbrev trade (ow : List Turn) (lk : List (List Turn)) : AV := .agg [turns ow, tlists lk]
theorem same_init (m n : Nat) : ((m : Int) == (n : Int)) = decide (m = n) := by
  by_cases h : m = n <;> simp [h]; omega
theorem take_step {α : Type} {a b : List α} {i : Nat} (h1 : i < a.length) (h2 : i < b.length) (h3 : a.take i = b.take i) : (a[i] = b[i]) ↔ a.take (i + 1) = b.take (i + 1) := by
  have e1 := List.take_succ_eq_append_getElem h1
  have e2 := List.take_succ_eq_append_getElem h2
  rw [e1, e2, h3]
  exact ⟨fun h => by rw [h], fun h => by have := List.append_cancel_left h; simpa using this⟩
theorem same_step {α : Type} [BEq α] [LawfulBEq α] [DecidableEq α] {a b : List α} {i : Nat} (h : (a.length = b.length ∧ a.take i = b.take i) ∧ i < b.length) (h1 : i < a.length) (h2 : i < b.length) : (a[i] == b[i]) = decide (a.take (i + 1) = b.take (i + 1)) := by
  rw [Bool.eq_iff_iff]
  simp [take_step h1 h2 h.1.2]
theorem same_end {α : Type} [DecidableEq α] {a b : List α} {i : Nat} (h : a.length = b.length → a.take i = b.take i → b.length ≤ i) (hi : i ≤ a.length) : decide (a.length = b.length ∧ a.take i = b.take i) = decide (a = b) := by
  rw [decide_eq_decide]
  constructor
  · rintro ⟨h1, h2⟩
    have := h h1 h2
    rwa [List.take_of_length_le (by omega), List.take_of_length_le (by omega)] at h2
  · rintro rfl; exact ⟨rfl, rfl⟩
theorem same_end' {α : Type} [DecidableEq α] {a b : List α} {i : Nat} (h : a.length = b.length → a.take i = b.take i → b.length ≤ i) (hi : i ≤ a.length) : (decide (a.length = b.length) && decide (a.take i = b.take i)) = decide (a = b) := by
  rw [← Bool.decide_and]; exact same_end h hi
theorem turn_eq (a b : Turn) : (a.1 == b.1 && a.2 == b.2) = decide (a = b) := by
  rw [Bool.eq_iff_iff]; simp [Prod.ext_iff]
theorem take_len_map {α β : Type} (f : α → β) (l : List α) : (l.map f).take l.length = l.map f := by rw [← List.map_take, List.take_length]
attribute [simp] take_len_map
theorem take_snoc {α β : Type} (f : α → β) {l : List α} {i : Nat} (h : i < l.length) : (l.map f).take i ++ [f l[i]] = (l.map f).take (i + 1) := by
  rw [List.take_succ_eq_append_getElem (by simpa using h)]; simp
set_option maxHeartbeats 4000000 in
theorem SameInts_ok (a b : List Int) : ACalls Try.prog 34 [ints a, ints b] [] (fun r o => r = B (decide (a = b)) ∧ o = []) := by
  refine ACalls.len (l := a.map I) (by simp) ⟨_, Try.func34, by kernel_rfl, by kernel_rfl⟩ fun ha => ?_
  simp [maxLen_val] at ha
  refine ACalls.enter hΓ Try.func34 rfl (by kernel_rfl) Try.ntmps34 (by rw [Try.results34]) (by simp) (by simp; rfl) ?_
  refine W.regK hΓ [0, 1, 14, 15, 16, 17] (by simp; rfl) ?_
  refine W.regK hΓ [0, 1, 5, 14, 15, 16, 17] (by simp; rfl) ?_
  refine W.seqk fun K1 hK1 => ?_
  refine W.regK hΓ [0, 1, 5, 6, 14, 15, 16, 17] (by simp; rfl) ?_
  refine W.block ?_
  refine W.loopU (α := Nat) [0, 1] [16] [] (fun i => [(5, B (decide (a.length = b.length ∧ a.take i = b.take i))), (6, I i)]) (fun i => []) (fun i => i ≤ a.length) (fun i => a.length - i) 0 rfl (by simp; rfl) (by simp; rfl) ?_ ?_ ?_
  ·
    refine Le.fit (by simp; rfl) (by rfl) (by rfl) (by rfl) ?_ ?_
    ·
      try (simp)
      all_goals (
        -- 1 init.tmps
        exact same_init _ _
      )
    ·
      try (simp)
      all_goals (
        -- 2 init.objs
        first | done | omega | (simp_all; done) | (simp_all; omega)
      )
  ·
    -- 3 init.inv
    first | done | omega | (simp_all; done) | (simp_all; omega)
  ·
    intro i hI0
    simp only [List.cons_append, List.nil_append]
    try dsimp only at hI0
    refine W.seqk fun K2 hK2 => ?_
    refine W.seqR ?_
    refine WOps.n hΓ 2 (by simp [hI0]; first | rfl | exact ⟨rfl, rfl⟩) rfl ?_
    refine WOps.gd rfl rfl (by simp [hI0]; first | rfl | exact (Bool.not_not _).symm) ?_
    (with_reducible refine WG.isX ?_); refine WGx.mk hΓ rfl rfl (by intro hg; (try simp at hg); simp [hI0, hg, nth_eq, -getElem?_pos]; rfl) (by simp [hI0]; rfl) ?_
    refine WOps.gd rfl rfl (by simp [hI0]; first | rfl | exact (Bool.not_not _).symm) ?_
    (with_reducible refine WG.isX ?_); refine WGx.mk hΓ rfl rfl (by intro hg; (try simp at hg); simp [hI0, hg, nth_eq, -getElem?_pos]; rfl) (by simp [hI0]; rfl) ?_
    refine WOps.gd rfl rfl (by simp [hI0]; first | rfl | exact (Bool.not_not _).symm) ?_
    (with_reducible refine WG.isX ?_); refine WGx.mk hΓ rfl rfl (by intro hg; (try simp at hg); simp [hI0, hg, nth_eq, -getElem?_pos]; rfl) (by simp [hI0]; rfl) ?_
    refine WOps.gd rfl rfl (by simp [hI0]; first | rfl | exact (Bool.not_not _).symm) ?_
    (with_reducible refine WG.isX ?_); refine WGx.mk hΓ rfl rfl (by intro hg; (try simp at hg); simp [hI0, hg, nth_eq, -getElem?_pos]; rfl) (by simp [hI0]; rfl) ?_
    refine WOps.n hΓ 1 (by simp [hI0]; first | rfl | exact ⟨rfl, rfl⟩) rfl ?_
    refine WOps.endK ?_
    refine W.keep [0, 1, 5, 6, 14, 15, 16, 17, 18] (by simp [hI0]; rfl) ?_
    refine W.ite (by simp [hI0]; first | rfl | exact (Bool.not_not _).symm) (fun hc1 => ?_) (fun hc1 => ?_)
    ·
      try simp at hc1
      refine W.skip ?_
      refine thenQ_n (hK2 _ ?_)
      clear hK2 K2
      refine W.seqk fun K3 hK3 => ?_
      refine W.block ?_
      have hb : i < b.length := by omega
      refine W.drawE hm 8 [] (deps := [[], [], [1, 0], [0, 1, 2], [], [], [5, 4], [4, 5, 6], [6, 5, 4, 7, 2, 1, 0, 3], [3, 0, 1, 2, 7, 4, 5, 6, 8]]) (by rfl) (by rfl) ?_
      refine WDraw.n hΓ 8 0 rfl (by simp [hI0, hc1, hb]; exact ⟨rfl, rfl, rfl⟩) rfl ?_
      refine WDraw.done (by simp [hI0, hc1, hb]; rfl) ?_
      refine WOps.n hΓ 2 (by simp [hI0, hc1, hb]; first | rfl | exact ⟨rfl, rfl⟩) rfl ?_
      refine WOps.endK ?_
      refine blockQ_n ?_
      refine thenQ_n (hK3 _ ?_)
      clear hK3 K3
      refine W.regE hΓ (by simp [hI0, hc1, hb]; (try (simp (disch := omega) only [wrap_i64, mul_i64, capOk_of]; (try simp [hI0, hc1, hb]))); rfl) ?_
      refine ⟨i + 1, Le.fit (by simp [hI0, hc1, hb]; rfl) (by rfl) (by rfl) (by rfl) ?_ ?_, ?_, ?_⟩
      ·
        try (simp [hI0, hc1, hb])
        all_goals (
          -- 4 back.tmps
          first | exact same_step hc1 _ hb | exact take_step _ hb hc1.1.2
        )
      ·
        try (simp [hI0, hc1, hb])
        all_goals (
          -- 5 back.objs
          first | done | omega | (simp_all; done) | (simp_all; omega)
        )
      ·
        -- 6 back.inv
        first | done | omega | (simp_all; done) | (simp_all; omega)
      ·
        -- 7 back.meas
        first | done | omega | (simp_all; done) | (simp_all; omega)
    ·
      try simp at hc1
      refine W.exit ?_
      refine thenQ_e ?_
      clear hK2 K2
      refine thenQ_e ?_
      refine blockQ_s ?_
      refine thenQ_n (hK1 _ ?_)
      clear hK1 K1
      refine W.regK hΓ [4] (by simp [hI0, hc1]; rfl) ?_
      refine W.ret ?_
      refine EndQ.r false [] [] (by simp [hI0, hc1]; first | rfl | exact ⟨rfl, rfl⟩) ?_
      -- 8 end
      exact ⟨by rw [same_end' hc1 hI0], rfl⟩
set_option maxHeartbeats 4000000 in
theorem SameTurns_ok (a b : List Turn) : ACalls Try.prog 24 [turns a, turns b] [] (fun r o => r = B (decide (a = b)) ∧ o = []) := by
  refine ACalls.len (l := a.map T) (by simp) ⟨_, Try.func24, by kernel_rfl, by kernel_rfl⟩ fun ha => ?_
  simp [maxLen_val] at ha
  refine ACalls.enter hΓ Try.func24 rfl (by kernel_rfl) Try.ntmps24 (by rw [Try.results24]) (by simp) (by simp; rfl) ?_
  refine W.regK hΓ [0, 1, 14, 15, 16, 17] (by simp; rfl) ?_
  refine W.regK hΓ [0, 1, 5, 14, 15, 16, 17] (by simp; rfl) ?_
  refine W.seqk fun K1 hK1 => ?_
  refine W.regK hΓ [0, 1, 5, 6, 14, 15, 16, 17] (by simp; rfl) ?_
  refine W.block ?_
  refine W.loopU (α := Nat) [0, 1] [16] [] (fun i => [(5, B (decide (a.length = b.length ∧ a.take i = b.take i))), (6, I i)]) (fun i => []) (fun i => i ≤ a.length) (fun i => a.length - i) 0 rfl (by simp; rfl) (by simp; rfl) ?_ ?_ ?_
  ·
    refine Le.fit (by simp; rfl) (by rfl) (by rfl) (by rfl) ?_ ?_
    ·
      try (simp)
      all_goals (
        -- 1 init.tmps
        exact same_init _ _
      )
    ·
      try (simp)
      all_goals (
        -- 2 init.objs
        first | done | omega | (simp_all; done) | (simp_all; omega)
      )
  ·
    -- 3 init.inv
    first | done | omega | (simp_all; done) | (simp_all; omega)
  ·
    intro i hI0
    simp only [List.cons_append, List.nil_append]
    try dsimp only at hI0
    refine W.seqk fun K2 hK2 => ?_
    refine W.seqR ?_
    refine WOps.n hΓ 2 (by simp [hI0]; first | rfl | exact ⟨rfl, rfl⟩) rfl ?_
    refine WOps.gd rfl rfl (by simp [hI0]; first | rfl | exact (Bool.not_not _).symm) ?_
    (with_reducible refine WG.isX ?_); refine WGx.mk hΓ rfl rfl (by intro hg; (try simp at hg); simp [hI0, hg, nth_eq, -getElem?_pos]; rfl) (by simp [hI0]; rfl) ?_
    refine WOps.gd rfl rfl (by simp [hI0]; first | rfl | exact (Bool.not_not _).symm) ?_
    (with_reducible refine WG.isX ?_); refine WGx.mk hΓ rfl rfl (by intro hg; (try simp at hg); simp [hI0, hg, nth_eq, -getElem?_pos]; rfl) (by simp [hI0]; rfl) ?_
    refine WOps.gd rfl rfl (by simp [hI0]; first | rfl | exact (Bool.not_not _).symm) ?_
    (with_reducible refine WG.isX ?_); refine WGx.mk hΓ rfl rfl (by intro hg; (try simp at hg); simp [hI0, hg, nth_eq, -getElem?_pos]; rfl) (by simp [hI0]; rfl) ?_
    refine WOps.gd rfl rfl (by simp [hI0]; first | rfl | exact (Bool.not_not _).symm) ?_
    (with_reducible refine WG.isX ?_); refine WGx.mk hΓ rfl rfl (by intro hg; (try simp at hg); simp [hI0, hg, nth_eq, -getElem?_pos]; rfl) (by simp [hI0]; rfl) ?_
    refine WOps.n hΓ 1 (by simp [hI0]; first | rfl | exact ⟨rfl, rfl⟩) rfl ?_
    refine WOps.endK ?_
    refine W.keep [0, 1, 5, 6, 14, 15, 16, 17, 18] (by simp [hI0]; rfl) ?_
    refine W.ite (by simp [hI0]; first | rfl | exact (Bool.not_not _).symm) (fun hc1 => ?_) (fun hc1 => ?_)
    ·
      try simp at hc1
      refine W.skip ?_
      refine thenQ_n (hK2 _ ?_)
      clear hK2 K2
      refine W.seqk fun K3 hK3 => ?_
      refine W.block ?_
      have hb : i < b.length := by omega
      refine W.drawE hm 8 [] (deps := [[], [], [1, 0], [0, 1, 2], [], [], [5, 4], [4, 5, 6], [6, 5, 4, 7, 2, 1, 0, 3], [3, 0, 1, 2, 7, 4, 5, 6, 8]]) (by rfl) (by rfl) ?_
      refine WDraw.n hΓ 8 0 rfl (by simp [hI0, hc1, hb]; exact ⟨rfl, rfl, rfl⟩) rfl ?_
      refine WDraw.done (by simp [hI0, hc1, hb]; rfl) ?_
      refine WOps.n hΓ 2 (by simp [hI0, hc1, hb]; first | rfl | exact ⟨rfl, rfl⟩) rfl ?_
      refine WOps.endK ?_
      refine blockQ_n ?_
      refine thenQ_n (hK3 _ ?_)
      clear hK3 K3
      refine W.regE hΓ (by simp [hI0, hc1, hb]; (try (simp (disch := omega) only [wrap_i64, mul_i64, capOk_of]; (try simp [hI0, hc1, hb]))); rfl) ?_
      refine ⟨i + 1, Le.fit (by simp [hI0, hc1, hb]; rfl) (by rfl) (by rfl) (by rfl) ?_ ?_, ?_, ?_⟩
      ·
        try (simp [hI0, hc1, hb])
        all_goals (
          -- 4 back.tmps
          first | exact same_step hc1 _ hb | exact take_step _ hb hc1.1.2
        )
      ·
        try (simp [hI0, hc1, hb])
        all_goals (
          -- 5 back.objs
          first | done | omega | (simp_all; done) | (simp_all; omega)
        )
      ·
        -- 6 back.inv
        first | done | omega | (simp_all; done) | (simp_all; omega)
      ·
        -- 7 back.meas
        first | done | omega | (simp_all; done) | (simp_all; omega)
    ·
      try simp at hc1
      refine W.exit ?_
      refine thenQ_e ?_
      clear hK2 K2
      refine thenQ_e ?_
      refine blockQ_s ?_
      refine thenQ_n (hK1 _ ?_)
      clear hK1 K1
      refine W.regK hΓ [4] (by simp [hI0, hc1]; rfl) ?_
      refine W.ret ?_
      refine EndQ.r false [] [] (by simp [hI0, hc1]; first | rfl | exact ⟨rfl, rfl⟩) ?_
      -- 8 end
      exact ⟨by rw [same_end' hc1 hI0], rfl⟩
set_option maxHeartbeats 4000000 in
theorem SameTables_ok (a b : List (List Int)) : ACalls Try.prog 23 [tabs a, tabs b] [] (fun r o => r = B (decide (a = b)) ∧ o = []) := by
  refine ACalls.len (l := a.map ints) (by simp) ⟨_, Try.func23, by kernel_rfl, by kernel_rfl⟩ fun ha => ?_
  simp [maxLen_val] at ha
  refine ACalls.enter hΓ Try.func23 rfl (by kernel_rfl) Try.ntmps23 (by rw [Try.results23]) (by simp) (by simp; rfl) ?_
  refine W.regK hΓ [0, 1, 14, 15, 16, 17] (by simp; rfl) ?_
  refine W.regK hΓ [0, 1, 5, 14, 15, 16, 17] (by simp; rfl) ?_
  refine W.seqk fun K1 hK1 => ?_
  refine W.regK hΓ [0, 1, 5, 6, 14, 15, 16, 17] (by simp; rfl) ?_
  refine W.block ?_
  refine W.loopU (α := Nat) [0, 1] [16, 29] [] (fun i => [(5, B (decide (a.length = b.length ∧ a.take i = b.take i))), (6, I i)]) (fun i => []) (fun i => i ≤ a.length) (fun i => a.length - i) 0 rfl (by simp; rfl) (by simp; rfl) ?_ ?_ ?_
  ·
    refine Le.fit (by simp; rfl) (by rfl) (by rfl) (by rfl) ?_ ?_
    ·
      try (simp)
      all_goals (
        -- 1 init.tmps
        exact same_init _ _
      )
    ·
      try (simp)
      all_goals (
        -- 2 init.objs
        first | done | omega | (simp_all; done) | (simp_all; omega)
      )
  ·
    -- 3 init.inv
    first | done | omega | (simp_all; done) | (simp_all; omega)
  ·
    intro i hI0
    simp only [List.cons_append, List.nil_append]
    try dsimp only at hI0
    refine W.seqk fun K2 hK2 => ?_
    refine W.seqR ?_
    refine WOps.n hΓ 2 (by simp [hI0]; first | rfl | exact ⟨rfl, rfl⟩) rfl ?_
    refine WOps.gd rfl rfl (by simp [hI0]; first | rfl | exact (Bool.not_not _).symm) ?_
    (with_reducible refine WG.isX ?_); refine WGx.mk hΓ rfl rfl (by intro hg; (try simp at hg); simp [hI0, hg, nth_eq, -getElem?_pos]; rfl) (by simp [hI0]; rfl) ?_
    refine WOps.gd rfl rfl (by simp [hI0]; first | rfl | exact (Bool.not_not _).symm) ?_
    (with_reducible refine WG.isX ?_); refine WGx.mk hΓ rfl rfl (by intro hg; (try simp at hg); simp [hI0, hg, nth_eq, -getElem?_pos]; rfl) (by simp [hI0]; rfl) ?_
    refine WOps.gd rfl rfl (by simp [hI0]; first | rfl | exact (Bool.not_not _).symm) ?_
    (with_reducible refine WG.isX ?_); refine WGx.mk hΓ rfl rfl (by intro hg; (try simp at hg); simp [hI0, hg, nth_eq, -getElem?_pos]; rfl) (by simp [hI0]; rfl) ?_
    refine WOps.gd rfl rfl (by simp [hI0]; first | rfl | exact (Bool.not_not _).symm) ?_
    (with_reducible refine WG.isX ?_); refine WGx.mk hΓ rfl rfl (by intro hg; (try simp at hg); simp [hI0, hg, nth_eq, -getElem?_pos]; rfl) (by simp [hI0]; rfl) ?_
    refine WOps.n hΓ 1 (by simp [hI0]; first | rfl | exact ⟨rfl, rfl⟩) rfl ?_
    refine WOps.endK ?_
    refine W.keep [0, 1, 5, 6, 14, 15, 16, 17, 18] (by simp [hI0]; rfl) ?_
    refine W.ite (by simp [hI0]; first | rfl | exact (Bool.not_not _).symm) (fun hc1 => ?_) (fun hc1 => ?_)
    ·
      try simp at hc1
      refine W.skip ?_
      refine thenQ_n (hK2 _ ?_)
      clear hK2 K2
      refine W.seqk fun K3 hK3 => ?_
      refine W.block ?_
      have hb : i < b.length := by omega
      refine W.drawE hm 8 [] (deps := [[], [], [1, 0], [0, 1, 2], [], [], [5, 4], [4, 5, 6], [6, 5, 4, 7, 2, 1, 0, 3], [3, 0, 1, 2, 7, 4, 5, 6, 8]]) (by rfl) (by rfl) ?_
      refine WDraw.n hΓ 8 0 rfl (by simp [hI0, hc1, hb]; exact ⟨rfl, rfl, rfl⟩) rfl ?_
      refine WDraw.done (by simp [hI0, hc1, hb]; rfl) ?_
      refine WOps.call rfl rfl rfl rfl [] rfl rfl (by decide) (by simp [hI0, hc1, hb]; first | rfl | exact ⟨rfl, rfl⟩) (by simp [hI0, hc1, hb]; rfl) ?_
      refine CallT.mk (SameInts_ok _ _) (by simp [hI0, hc1, hb]) ?_
      refine WOps.norm (by simp [hI0, hc1, hb]; rfl) ?_
      refine WOps.n hΓ 1 (by simp [hI0, hc1, hb]; first | rfl | exact ⟨rfl, rfl⟩) rfl ?_
      refine WOps.endK ?_
      refine blockQ_n ?_
      refine thenQ_n (hK3 _ ?_)
      clear hK3 K3
      refine W.regE hΓ (by simp [hI0, hc1, hb]; (try (simp (disch := omega) only [wrap_i64, mul_i64, capOk_of]; (try simp [hI0, hc1, hb]))); rfl) ?_
      refine ⟨i + 1, Le.fit (by simp [hI0, hc1, hb]; rfl) (by rfl) (by rfl) (by rfl) ?_ ?_, ?_, ?_⟩
      ·
        try (simp [hI0, hc1, hb])
        all_goals (
          -- 4 back.tmps
          first | exact same_step hc1 _ hb | exact take_step _ hb hc1.1.2
        )
      ·
        try (simp [hI0, hc1, hb])
        all_goals (
          -- 5 back.objs
          first | done | omega | (simp_all; done) | (simp_all; omega)
        )
      ·
        -- 6 back.inv
        first | done | omega | (simp_all; done) | (simp_all; omega)
      ·
        -- 7 back.meas
        first | done | omega | (simp_all; done) | (simp_all; omega)
    ·
      try simp at hc1
      refine W.exit ?_
      refine thenQ_e ?_
      clear hK2 K2
      refine thenQ_e ?_
      refine blockQ_s ?_
      refine thenQ_n (hK1 _ ?_)
      clear hK1 K1
      refine W.regK hΓ [4] (by simp [hI0, hc1]; rfl) ?_
      refine W.ret ?_
      refine EndQ.r false [] [] (by simp [hI0, hc1]; first | rfl | exact ⟨rfl, rfl⟩) ?_
      -- 8 end
      exact ⟨by rw [same_end' hc1 hI0], rfl⟩
set_option maxHeartbeats 4000000 in
theorem CopyInts_ok (l : List Int) (hl : l.length ≤ 1000000) : ACalls Try.prog 71 [ints l] [] (fun r o => r = .own 20000 0 l.length ∧ o = [(20000, .row true 3 1 (l.map I))]) := by
  refine ACalls.enter hΓ Try.func71 rfl (by kernel_rfl) Try.ntmps71 (by rw [Try.results71]) (by simp) (by simp; rfl) ?_
  refine W.regK hΓ [0] (by simp; rfl) ?_
  refine W.regK hΓ [2] (by simp; (try (simp (disch := omega) only [wrap_i64, mul_i64, capOk_of]; (try simp))); rfl) ?_
  refine W.ret ?_
  refine EndQ.r false [] [(20000, 24)] (by simp; first | rfl | exact ⟨rfl, rfl⟩) ?_
  -- 1 end
  first | done | omega | (simp_all; done) | (simp_all; omega)
set_option maxHeartbeats 4000000 in
theorem CopyTurns_ok (l : List Turn) (hl : l.length ≤ 1000000) : ACalls Try.prog 27 [turns l] [] (fun r o => r = .own 20000 0 l.length ∧ o = [(20000, .row true 55 2 (l.map T))]) := by
  refine ACalls.enter hΓ Try.func27 rfl (by kernel_rfl) Try.ntmps27 (by rw [Try.results27]) (by simp) (by simp; rfl) ?_
  refine W.regK hΓ [0] (by simp; rfl) ?_
  refine W.regK hΓ [2] (by simp; (try (simp (disch := omega) only [wrap_i64, mul_i64, capOk_of]; (try simp))); rfl) ?_
  refine W.ret ?_
  refine EndQ.r false [] [(20000, 24)] (by simp; first | rfl | exact ⟨rfl, rfl⟩) ?_
  -- 1 end
  first | done | omega | (simp_all; done) | (simp_all; omega)
theorem CopyInts_imm (l : List Int) (hl : l.length ≤ 1000000) : ACalls Try.prog 71 [ints l] [] (fun r o => r = ints l ∧ o = []) := ACalls.frzs [20000] (CopyInts_ok l hl) (by simp; rfl) (by simp; rfl)
theorem CopyTurns_imm (l : List Turn) (hl : l.length ≤ 1000000) : ACalls Try.prog 27 [turns l] [] (fun r o => r = turns l ∧ o = []) := ACalls.frzs [20000] (CopyTurns_ok l hl) (by simp; rfl) (by simp; rfl)
def bring (x n : Int) : Int := if n < 2 then 0 else if x.tmod n < 0 then x.tmod n + n else x.tmod n
set_option maxHeartbeats 4000000 in
theorem Bring_ok (x n : Int) (hn : n < 9223372036854775808) : ACalls Try.prog 16 [I x, I n] [] (fun r o => r = I (bring x n) ∧ o = []) := by
  refine ACalls.enter hΓ Try.func16 rfl (by kernel_rfl) Try.ntmps16 (by rw [Try.results16]) (by simp) (by simp; rfl) ?_
  refine W.regK hΓ [0, 1] (by simp; rfl) ?_
  refine W.seqk fun K1 hK1 => ?_
  refine W.regK hΓ [0, 1, 6] (by simp; rfl) ?_
  refine W.ite (by simp; first | rfl | exact (Bool.not_not _).symm) (fun hc1 => ?_) (fun hc1 => ?_)
  ·
    try simp at hc1
    refine W.regK hΓ [4] (by simp [hc1]; rfl) ?_
    refine W.ret ?_
    refine thenQ_r ?_
    clear hK1 K1
    refine EndQ.r false [] [] (by simp [hc1]; first | rfl | exact ⟨rfl, rfl⟩) ?_
    -- 1 end
    exact ⟨by rw [bring, if_pos hc1], rfl⟩
  ·
    try simp at hc1
    refine W.skip ?_
    refine thenQ_n (hK1 _ ?_)
    clear hK1 K1
    have hn0 : ¬ n = 0 := by omega
    refine W.regK hΓ [0, 1] (by simp [hc1, hn0]; rfl) ?_
    refine W.seqk fun K2 hK2 => ?_
    refine W.regK hΓ [0, 1, 11] (by simp [hc1, hn0]; rfl) ?_
    refine W.ite (by simp [hc1, hn0]; first | rfl | exact (Bool.not_not _).symm) (fun hc2 => ?_) (fun hc2 => ?_)
    ·
      try simp at hc2
      have hb := Int.lt_tmod_of_pos x (show 0 < n by omega)
      refine W.regK hΓ [4] (by simp [hc1, hn0, hc2, hb]; (try (simp (disch := omega) only [wrap_i64, mul_i64, capOk_of]; (try simp [hc1, hn0, hc2, hb]))); rfl) ?_
      refine W.ret ?_
      refine thenQ_r ?_
      clear hK2 K2
      refine EndQ.r false [] [] (by simp [hc1, hn0, hc2, hb]; first | rfl | exact ⟨rfl, rfl⟩) ?_
      -- 2 end
      exact ⟨by rw [bring, if_neg (by omega), if_pos hc2], rfl⟩
    ·
      try simp at hc2
      refine W.skip ?_
      refine thenQ_n (hK2 _ ?_)
      clear hK2 K2
      refine W.regK hΓ [4] (by simp [hc1, hn0, hc2]; rfl) ?_
      refine W.ret ?_
      refine EndQ.r false [] [] (by simp [hc1, hn0, hc2]; first | rfl | exact ⟨rfl, rfl⟩) ?_
      -- 3 end
      exact ⟨by rw [bring, if_neg (by omega), if_neg (by omega)], rfl⟩
set_option maxHeartbeats 4000000 in
theorem SameTrades_ok (ow ow' : List Turn) (lk lk' : List (List Turn)) : ACalls Try.prog 25 [trade ow lk, trade ow' lk'] [] (fun r o => r = B (decide (ow = ow' ∧ lk = lk')) ∧ o = []) := by
  refine ACalls.lenA (xs := [turns ow, tlists lk]) (l := lk.map turns) (by simp) (by simp) ⟨_, Try.func25, by kernel_rfl, by kernel_rfl⟩ fun hlen => ?_
  simp [maxLen_val] at hlen
  refine ACalls.enter hΓ Try.func25 rfl (by kernel_rfl) Try.ntmps25 (by rw [Try.results25]) (by simp) (by simp; rfl) ?_
  refine W.regK hΓ [2, 3, 13, 14, 15, 16, 17, 18, 19, 23, 24, 25, 26, 27] (by simp; rfl) ?_
  refine W.seqR ?_
  refine WOps.n hΓ 4 (by simp; first | rfl | exact ⟨rfl, rfl⟩) rfl ?_
  refine WOps.call rfl rfl rfl rfl [] rfl rfl (by decide) (by simp; first | rfl | exact ⟨rfl, rfl⟩) (by simp; rfl) ?_
  refine CallT.mk (SameTurns_ok _ _) (by simp) ?_
  refine WOps.norm (by simp; rfl) ?_
  refine WOps.n hΓ 1 (by simp; first | rfl | exact ⟨rfl, rfl⟩) rfl ?_
  refine WOps.gd rfl rfl (by simp; first | rfl | exact (Bool.not_not _).symm) ?_
  (with_reducible refine WG.isX ?_); refine WGx.mk hΓ rfl rfl (by intro hg; (try simp at hg); simp [hg, nth_eq, -getElem?_pos]; rfl) (by simp; rfl) ?_
  refine WOps.gd rfl rfl (by simp; first | rfl | exact (Bool.not_not _).symm) ?_
  (with_reducible refine WG.isX ?_); refine WGx.mk hΓ rfl rfl (by intro hg; (try simp at hg); simp [hg, nth_eq, -getElem?_pos]; rfl) (by simp; rfl) ?_
  refine WOps.gd rfl rfl (by simp; first | rfl | exact (Bool.not_not _).symm) ?_
  (with_reducible refine WG.isX ?_); refine WGx.mk hΓ rfl rfl (by intro hg; (try simp at hg); simp [hg, nth_eq, -getElem?_pos]; rfl) (by simp; rfl) ?_
  refine WOps.gd rfl rfl (by simp; first | rfl | exact (Bool.not_not _).symm) ?_
  (with_reducible refine WG.isX ?_); refine WGx.mk hΓ rfl rfl (by intro hg; (try simp at hg); simp [hg, nth_eq, -getElem?_pos]; rfl) (by simp; rfl) ?_
  refine WOps.gd rfl rfl (by simp; first | rfl | exact (Bool.not_not _).symm) ?_
  (with_reducible refine WG.isX ?_); refine WGx.mk hΓ rfl rfl (by intro hg; (try simp at hg); simp [hg, nth_eq, -getElem?_pos]; rfl) (by simp; rfl) ?_
  refine WOps.gd rfl rfl (by simp; first | rfl | exact (Bool.not_not _).symm) ?_
  (with_reducible refine WG.isX ?_); refine WGx.mk hΓ rfl rfl (by intro hg; (try simp at hg); simp [hg, nth_eq, -getElem?_pos]; rfl) (by simp; rfl) ?_
  refine WOps.gd rfl rfl (by simp; first | rfl | exact (Bool.not_not _).symm) ?_
  (with_reducible refine WG.isX ?_); refine WGx.mk hΓ rfl rfl (by intro hg; (try simp at hg); simp [hg, nth_eq, -getElem?_pos]; rfl) (by simp; rfl) ?_
  refine WOps.n hΓ 2 (by simp; first | rfl | exact ⟨rfl, rfl⟩) rfl ?_
  refine WOps.endK ?_
  refine W.keep [2, 3, 5, 23, 24, 25, 26, 27] (by simp; rfl) ?_
  refine W.seqk fun K1 hK1 => ?_
  refine W.regK hΓ [2, 3, 5, 6, 23, 24, 25, 26, 27] (by simp; rfl) ?_
  refine W.block ?_
  refine W.loopU (α := Nat) [2, 3] [26, 41] [] (fun i => [(5, B (decide (ow = ow') && decide (lk.length = lk'.length ∧ lk.take i = lk'.take i))), (6, I i)]) (fun i => []) (fun i => i ≤ lk.length) (fun i => lk.length - i) 0 rfl (by simp; rfl) (by simp; rfl) ?_ ?_ ?_
  ·
    refine Le.fit (by simp; rfl) (by rfl) (by rfl) (by rfl) ?_ ?_
    ·
      try (simp)
      all_goals (
        -- 1 init.tmps
        rw [same_init]
      )
    ·
      try (simp)
      all_goals (
        -- 2 init.objs
        first | done | omega | (simp_all; done) | (simp_all; omega)
      )
  ·
    -- 3 init.inv
    first | done | omega | (simp_all; done) | (simp_all; omega)
  ·
    intro i hI0
    simp only [List.cons_append, List.nil_append]
    try dsimp only at hI0
    refine W.seqk fun K2 hK2 => ?_
    refine W.seqR ?_
    refine WOps.n hΓ 2 (by simp [hI0]; first | rfl | exact ⟨rfl, rfl⟩) rfl ?_
    refine WOps.gd rfl rfl (by simp [hI0]; first | rfl | exact (Bool.not_not _).symm) ?_
    (with_reducible refine WG.isX ?_); refine WGx.mk hΓ rfl rfl (by intro hg; (try simp at hg); simp [hI0, hg, nth_eq, -getElem?_pos]; rfl) (by simp [hI0]; rfl) ?_
    refine WOps.gd rfl rfl (by simp [hI0]; first | rfl | exact (Bool.not_not _).symm) ?_
    (with_reducible refine WG.isX ?_); refine WGx.mk hΓ rfl rfl (by intro hg; (try simp at hg); simp [hI0, hg, nth_eq, -getElem?_pos]; rfl) (by simp [hI0]; rfl) ?_
    refine WOps.gd rfl rfl (by simp [hI0]; first | rfl | exact (Bool.not_not _).symm) ?_
    (with_reducible refine WG.isX ?_); refine WGx.mk hΓ rfl rfl (by intro hg; (try simp at hg); simp [hI0, hg, nth_eq, -getElem?_pos]; rfl) (by simp [hI0]; rfl) ?_
    refine WOps.gd rfl rfl (by simp [hI0]; first | rfl | exact (Bool.not_not _).symm) ?_
    (with_reducible refine WG.isX ?_); refine WGx.mk hΓ rfl rfl (by intro hg; (try simp at hg); simp [hI0, hg, nth_eq, -getElem?_pos]; rfl) (by simp [hI0]; rfl) ?_
    refine WOps.gd rfl rfl (by simp [hI0]; first | rfl | exact (Bool.not_not _).symm) ?_
    (with_reducible refine WG.isX ?_); refine WGx.mk hΓ rfl rfl (by intro hg; (try simp at hg); simp [hI0, hg, nth_eq, -getElem?_pos]; rfl) (by simp [hI0]; rfl) ?_
    refine WOps.n hΓ 1 (by simp [hI0]; first | rfl | exact ⟨rfl, rfl⟩) rfl ?_
    refine WOps.endK ?_
    refine W.keep [2, 3, 5, 6, 23, 24, 25, 26, 27, 28] (by simp [hI0]; rfl) ?_
    refine W.ite (by simp [hI0]; first | rfl | exact (Bool.not_not _).symm) (fun hc1 => ?_) (fun hc1 => ?_)
    ·
      try simp at hc1
      refine W.skip ?_
      refine thenQ_n (hK2 _ ?_)
      clear hK2 K2
      refine W.seqk fun K3 hK3 => ?_
      refine W.block ?_
      have hb : i < lk'.length := by omega
      refine W.drawE hm 10 [] (deps := [[], [0], [], [2, 0, 1], [1, 0, 2, 3], [], [5], [], [7, 5, 6], [6, 5, 7, 8], [8, 7, 5, 6, 9, 3, 2, 0, 1, 4], [4, 1, 0, 2, 3, 9, 6, 5, 7, 8, 10]]) (by rfl) (by rfl) ?_
      refine WDraw.n hΓ 10 0 rfl (by simp [hI0, hc1, hb]; exact ⟨rfl, rfl, rfl⟩) rfl ?_
      refine WDraw.done (by simp [hI0, hc1, hb]; rfl) ?_
      refine WOps.call rfl rfl rfl rfl [] rfl rfl (by decide) (by simp [hI0, hc1, hb]; first | rfl | exact ⟨rfl, rfl⟩) (by simp [hI0, hc1, hb]; rfl) ?_
      refine CallT.mk (SameTurns_ok _ _) (by simp [hI0, hc1, hb]) ?_
      refine WOps.norm (by simp [hI0, hc1, hb]; rfl) ?_
      refine WOps.n hΓ 1 (by simp [hI0, hc1, hb]; first | rfl | exact ⟨rfl, rfl⟩) rfl ?_
      refine WOps.endK ?_
      refine blockQ_n ?_
      refine thenQ_n (hK3 _ ?_)
      clear hK3 K3
      refine W.regE hΓ (by simp [hI0, hc1, hb]; (try (simp (disch := omega) only [wrap_i64, mul_i64, capOk_of]; (try simp [hI0, hc1, hb]))); rfl) ?_
      refine ⟨i + 1, Le.fit (by simp [hI0, hc1, hb]; rfl) (by rfl) (by rfl) (by rfl) ?_ ?_, ?_, ?_⟩
      ·
        try (simp [hI0, hc1, hb])
        all_goals (
          -- 4 back.tmps
          exact take_step _ hb hc1.1.2.2
        )
      ·
        try (simp [hI0, hc1, hb])
        all_goals (
          -- 5 back.objs
          first | done | omega | (simp_all; done) | (simp_all; omega)
        )
      ·
        -- 6 back.inv
        first | done | omega | (simp_all; done) | (simp_all; omega)
      ·
        -- 7 back.meas
        first | done | omega | (simp_all; done) | (simp_all; omega)
    ·
      try simp at hc1
      refine W.exit ?_
      refine thenQ_e ?_
      clear hK2 K2
      refine thenQ_e ?_
      refine blockQ_s ?_
      refine thenQ_n (hK1 _ ?_)
      clear hK1 K1
      refine W.regK hΓ [4] (by simp [hI0, hc1]; rfl) ?_
      refine W.ret ?_
      refine EndQ.r false [] [] (by simp [hI0, hc1]; first | rfl | exact ⟨rfl, rfl⟩) ?_
      -- 8 end
      refine ⟨?_, rfl⟩
      rw [← Bool.decide_and]
      by_cases h : ow = ow'
      · simp only [h, true_and, decide_true, Bool.true_and]; exact congrArg B (same_end (fun h1 h2 => hc1 h h1 h2) hI0)
      · simp [h]
set_option maxHeartbeats 4000000 in
theorem CopyTrade_ok (ow : List Turn) (lk : List (List Turn)) (ho : ow.length ≤ 1000000) (hk : lk.length ≤ 1000000) (hks : ∀ l ∈ lk, l.length ≤ 1000000) : ACalls Try.prog 15 [trade ow lk] [] (fun r o => r = .agg [.own 20000 0 ow.length, .own 20001 0 lk.length] ∧ o = [(20000, .row true 55 2 (ow.map T)), (20001, .row true 22 1 (lk.map turns))]) := by
  refine ACalls.enter hΓ Try.func15 rfl (by kernel_rfl) Try.ntmps15 (by rw [Try.results15]) (by simp) (by simp; rfl) ?_
  refine W.regK hΓ [1, 2] (by simp; rfl) ?_
  refine W.seqR ?_
  refine WOps.n hΓ 2 (by simp; first | rfl | exact ⟨rfl, rfl⟩) rfl ?_
  refine WOps.call rfl rfl rfl rfl [] rfl rfl (by decide) (by simp; first | rfl | exact ⟨rfl, rfl⟩) (by simp; rfl) ?_
  refine CallT.mk (CopyTurns_ok _ (by omega)) (by simp) ?_
  refine WOps.norm (by simp; rfl) ?_
  refine WOps.n hΓ 3 (by simp; first | rfl | exact ⟨rfl, rfl⟩) rfl ?_
  refine WOps.endK ?_
  refine W.keep [1, 2, 3] (by simp; rfl) ?_
  refine W.seqk fun K1 hK1 => ?_
  refine W.regK hΓ [1, 2, 3, 4] (by simp; rfl) ?_
  refine W.block ?_
  refine W.ownNilO 24 0 1 9000 22 1 (by simp; rfl) ?_
  refine W.loopU (α := Nat) [1, 2, 3] [12, 23, 24, 25] [24, 9000] (fun i => [(4, I i)]) (fun i => [(24, .row false 25 2 [.agg [.own 56 0 ow.length, .own 9000 0 i]]), (9000, .row true 22 1 ((lk.take i).map turns))]) (fun i => i ≤ lk.length) (fun i => lk.length - i) 0 rfl (by simp; rfl) (by simp; rfl) ?_ ?_ ?_
  ·
    refine Le.fit (by simp; rfl) (by rfl) (by rfl) (by rfl) ?_ ?_
    ·
      try (simp)
      all_goals (
        -- 1 init.tmps
        first | done | omega | (simp_all; done) | (simp_all; omega)
      )
    ·
      try (simp)
      all_goals (
        -- 2 init.objs
        first | done | omega | (simp_all; done) | (simp_all; omega)
      )
  ·
    -- 3 init.inv
    first | done | omega | (simp_all; done) | (simp_all; omega)
  ·
    intro i hI0
    simp only [List.cons_append, List.nil_append]
    try dsimp only at hI0
    refine W.seqk fun K2 hK2 => ?_
    refine W.regK hΓ [1, 2, 3, 4, 13] (by simp [hI0]; rfl) ?_
    refine W.ite (by simp [hI0]; first | rfl | exact (Bool.not_not _).symm) (fun hc1 => ?_) (fun hc1 => ?_)
    ·
      try simp at hc1
      refine W.skip ?_
      refine thenQ_n (hK2 _ ?_)
      clear hK2 K2
      refine W.seqk fun K3 hK3 => ?_
      refine W.block ?_
      have hq : lk[i].length ≤ 1000000 := hks lk[i] (List.getElem_mem _)
      refine W.drawE hm 9 [] (deps := [[], [0], [], [2], [], [4, 2, 3], [3, 2, 4, 5], [5, 4, 2, 3, 6], [6, 3, 2, 4, 5, 7], [7, 5, 4, 2, 3, 6, 8, 0, 1], [9, 8, 7, 6, 5, 4, 3, 2, 1, 0], [0, 1, 2, 3, 4, 5, 6, 7, 8, 9, 10]]) (by rfl) (by rfl) ?_
      refine WDraw.n hΓ 7 2 rfl (by simp [hI0, hc1, hq]; exact ⟨rfl, rfl, rfl⟩) rfl ?_
      refine WDraw.callD (by simp [hI0, hc1, hq]; rfl) rfl rfl rfl [] rfl (by simp [hI0, hc1, hq]; first | rfl | exact ⟨rfl, rfl⟩) (by simp [hI0, hc1, hq]; rfl) rfl rfl (.inl rfl) ?_
      refine CallD.mk (CopyTurns_imm _ (by omega)) (by simp [hI0, hc1, hq]) ⟨(by simp [hI0, hc1, hq]), _, (by simp [hI0, hc1, hq]; rfl), ?_⟩
      refine WDraw.n hΓ 1 0 rfl (by simp [hI0, hc1, hq]; exact ⟨rfl, rfl, rfl⟩) rfl ?_
      refine WDraw.done (by simp [hI0, hc1, hq]; rfl) ?_
      refine WOps.n hΓ 3 (by simp [hI0, hc1, hq]; (try (simp (disch := omega) only [wrap_i64, mul_i64, capOk_of]; (try simp [hI0, hc1, hq]))); first | rfl | exact ⟨rfl, rfl⟩) rfl ?_
      refine WOps.endK ?_
      refine blockQ_n ?_
      refine thenQ_n (hK3 _ ?_)
      clear hK3 K3
      refine W.regE hΓ (by simp [hI0, hc1, hq]; (try (simp (disch := omega) only [wrap_i64, mul_i64, capOk_of]; (try simp [hI0, hc1, hq]))); rfl) ?_
      refine ⟨i + 1, Le.fit (by simp [hI0, hc1, hq]; rfl) (by rfl) (by rfl) (by rfl) ?_ ?_, ?_, ?_⟩
      ·
        try (simp [hI0, hc1, hq])
        all_goals (
          -- 4 back.tmps
          first | done | omega | (simp_all; done) | (simp_all; omega)
        )
      ·
        try (simp [hI0, hc1, hq])
        all_goals (
          -- 5 back.objs
          exact take_snoc turns hc1
        )
      ·
        -- 6 back.inv
        first | done | omega | (simp_all; done) | (simp_all; omega)
      ·
        -- 7 back.meas
        first | done | omega | (simp_all; done) | (simp_all; omega)
    ·
      try simp at hc1
      refine W.exit ?_
      refine thenQ_e ?_
      clear hK2 K2
      refine thenQ_e ?_
      refine blockQ_s ?_
      refine thenQ_n (hK1 _ ?_)
      clear hK1 K1
      refine W.regK hΓ [2] (by simp [hI0, hc1]; rfl) ?_
      refine W.ret ?_
      refine EndQ.r false [] [(20000, 56), (20001, 9000)] (by simp [hI0, hc1]; first | rfl | exact ⟨rfl, rfl⟩) ?_
      -- 8 end
      rw [show i = lk.length from by omega, take_len_map]; exact ⟨rfl, rfl⟩
theorem CopyTrade_imm (ow : List Turn) (lk : List (List Turn)) (ho : ow.length ≤ 1000000) (hk : lk.length ≤ 1000000) (hks : ∀ l ∈ lk, l.length ≤ 1000000) : ACalls Try.prog 15 [trade ow lk] [] (fun r o => r = trade ow lk ∧ o = []) := ACalls.frzs [20000, 20001] (CopyTrade_ok ow lk ho hk hks) (by simp; rfl) (by simp; rfl)
/-! dice -/
abbrev die (f : Int) : Obj := .row false 72 1 [.agg [.val (.int .u64 f)]]
def u64 (n : Int) : Int := IntKind.u64.wrap n
theorem u64_range (n : Int) : 0 ≤ u64 n ∧ u64 n < 18446744073709551616 := by
  have e1 : (2 : Int) ^ IntKind.u64.bits = 18446744073709551616 := by decide
  have e3 : IntKind.u64.signed = false := rfl
  unfold u64
  simp only [IntKind.wrap, e1, e3, Bool.false_and, Bool.false_eq_true, if_false]
  omega
def rollF (f : Int) : Int := IntKind.u64.wrap (f + 11562461410679940143)
noncomputable def xsh (x k : Int) : Int := xorI .u64 x (shrI .u64 x k)
noncomputable def rollV (f : Int) : Int := xsh (mulI .u64 (xsh (mulI .u64 (xsh (rollF f) 30) 13787848793156543929) 27) 10723151780598845931) 31
set_option maxHeartbeats 4000000 in
theorem roll_ok (f : Int) : ACalls Try.prog 50 [.ptr 10000 0 0] [(10000, die f)] (fun r o => r = .val (.int .u64 (rollV f)) ∧ o = [(10000, die (rollF f))]) := by
  refine ACalls.enter hΓ Try.func50 rfl (by kernel_rfl) Try.ntmps50 (by rw [Try.results50]) (by simp) (by simp; rfl) ?_
  refine W.regK hΓ [0] (by simp; rfl) ?_
  refine W.regK hΓ [0] (by simp; rfl) ?_
  refine W.regK hΓ [3] (by simp; rfl) ?_
  refine W.regK hΓ [3] (by simp; rfl) ?_
  refine W.regK hΓ [3] (by simp; rfl) ?_
  refine W.regK hΓ [2] (by simp; rfl) ?_
  refine W.ret ?_
  refine EndQ.r false [] [(10000, 10000)] (by simp; first | rfl | exact ⟨rfl, rfl⟩) ?_
  -- 1 end
  exact ⟨rfl, rfl⟩
end Go.Sim
