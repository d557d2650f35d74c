/- All groups, handed out one after the other. -/
import Derived.Test.YtggbbldoopfejaaVi
import Derived.Test.YtggbbldoopfejaaSz
namespace Go.Sim
open Go.Proofs Go.Plain
set_option maxRecDepth 100000
set_option linter.unusedSimpArgs false
attribute [-simp] List.map_set List.map_take List.map_drop
attribute [local simp] take_map' drop_map'
def natV (n : Nat) : Value := .int .i64 (n : Int)
theorem map_natV (l : List Nat) : l.map nI = (l.map natV).map AV.val := by simp [natV, Function.comp_def]
/-- all groups of so many that begin so -/
def gr (n many : Nat) : Nat → List Nat → Nat → List (List Nat)
  | 0, _, _ => []
  | f + 1, l, next => if l.length = many then [l] else (List.range' next (n - next)).flatMap fun i => gr n many f (l ++ [i]) (i + 1)
def Jof (J0 : World → (Nat → Prop) → Prop) (JX : List Nat → World → (Nat → Prop) → Prop) : Option (List Nat) → (World → (Nat → Prop) → Prop)
  | none => J0
  | some g => JX g
theorem gr_full {n many f next : Nat} {l : List Nat} (h : l.length = many) : gr n many (f + 1) l next = [l] := if_pos h
theorem gr_go {n many f next : Nat} {l : List Nat} (h : l.length ≠ many) : gr n many (f + 1) l next = (List.range' next (n - next)).flatMap fun i => gr n many f (l ++ [i]) (i + 1) := if_neg h
theorem find_step {g : Nat → List (List Nat)} {stop : List Nat → Bool} {i n : Nat} (h : i < n) : ((List.range' i (n - i)).flatMap g).find? stop = ((g i).find? stop).or (((List.range' (i + 1) (n - (i + 1))).flatMap g).find? stop) := by
  rw [range'_next h, List.flatMap_cons, List.find?_append]
theorem find_done {g : Nat → List (List Nat)} {stop : List Nat → Bool} {i n : Nat} (h : n ≤ i) : ((List.range' i (n - i)).flatMap g).find? stop = none := by rw [range'_done h]; rfl
theorem Jof_one (J0 : World → (Nat → Prop) → Prop) (JX : List Nat → World → (Nat → Prop) → Prop) (stop : List Nat → Bool) (l : List Nat) : Jof J0 JX ([l].find? stop) = if stop l then JX l else J0 := by
  simp only [List.find?_cons, List.find?_nil]; cases stop l <;> rfl
theorem isNone_one (stop : List Nat → Bool) (l : List Nat) : ([l].find? stop).isNone = !stop l := by
  simp only [List.find?_cons, List.find?_nil]; cases stop l <;> rfl
theorem Jof_none (J0 : World → (Nat → Prop) → Prop) (JX : List Nat → World → (Nat → Prop) → Prop) : Jof J0 JX none = J0 := rfl
attribute [local simp] Jof_none
set_option maxHeartbeats 4000000 in
theorem walk_own (n many : Nat) (stop : List Nat → Bool) (lp : Nat) (J0 : World → (Nat → Prop) → Prop) (JX : List Nat → World → (Nat → Prop) → Prop) (hn8 : n ≤ 8) (hm0 : 0 < many) (hy : ∀ g : List Nat, g.length = many → (∀ y ∈ g, y < n) → YieldOk Try.prog lp J0 3 (g.map natV) (fun t J' => t = !stop g ∧ J' = if stop g then JX g else J0)) (f next cap : Nat) (l : List Nat) (hl0 : 0 < l.length) (hlm : l.length ≤ many) (hl : ∀ y ∈ l, y < n) (hm8 : many ≤ 8) (hcap : l.length ≤ cap) (ih : ∀ (l' : List Nat) (i cap' : Nat), l'.length = l.length + 1 → l'.length ≤ many → (∀ y ∈ l', y < n) → l'.length ≤ cap' → i + 1 ≤ n → ACalls Try.prog 80 [.own 10005 0 l'.length, I ((i : Int) + 1), .ptr 10000 0 0, .ptr 10001 0 0, .ptr 10002 0 0, .ptr 10003 0 0] [(10000, .row false 3 1 [I many]), (10001, .row false 56 1 [.yld 19999]), (10002, .row false 3 1 [I n]), (10003, .row false 82 1 [.clo 80 [.ptr 10000 0 0, .ptr 10001 0 0, .ptr 10002 0 0, .ptr 10003 0 0]]), (10005, .fix 3 1 cap' (l'.map nI)), (19999, .ext lp J0)] (fun r o => r = B ((gr n many f l' (i + 1)).find? stop).isNone ∧ o = [(10000, .row false 3 1 [I many]), (10001, .row false 56 1 [.yld 19999]), (10002, .row false 3 1 [I n]), (10003, .row false 82 1 [.clo 80 [.ptr 10000 0 0, .ptr 10001 0 0, .ptr 10002 0 0, .ptr 10003 0 0]]), (10005, .fix 3 1 cap' (l'.map nI)), (19999, .ext lp (Jof J0 JX ((gr n many f l' (i + 1)).find? stop)))])) : ACalls Try.prog 80 [.own 10005 0 l.length, I next, .ptr 10000 0 0, .ptr 10001 0 0, .ptr 10002 0 0, .ptr 10003 0 0] [(10000, .row false 3 1 [I many]), (10001, .row false 56 1 [.yld 19999]), (10002, .row false 3 1 [I n]), (10003, .row false 82 1 [.clo 80 [.ptr 10000 0 0, .ptr 10001 0 0, .ptr 10002 0 0, .ptr 10003 0 0]]), (10005, .fix 3 1 cap (l.map nI)), (19999, .ext lp J0)] (fun r o => r = B ((gr n many (f + 1) l next).find? stop).isNone ∧ o = [(10000, .row false 3 1 [I many]), (10001, .row false 56 1 [.yld 19999]), (10002, .row false 3 1 [I n]), (10003, .row false 82 1 [.clo 80 [.ptr 10000 0 0, .ptr 10001 0 0, .ptr 10002 0 0, .ptr 10003 0 0]]), (10005, .fix 3 1 cap (l.map nI)), (19999, .ext lp (Jof J0 JX ((gr n many (f + 1) l next).find? stop)))]) := by
  refine ACalls.enter hΓ Try.func80 rfl (by kernel_rfl) Try.ntmps80 (by rw [Try.results80]) (by simp) (by simp [hl0, hlm]; rfl) ?_
  refine W.regK hΓ [0, 1, 2, 3, 4, 5] (by simp [hl0, hlm]; rfl) ?_
  refine W.seqk fun K1 hK1 => ?_
  refine W.regK hΓ [0, 1, 3, 4, 5, 13] (by simp [hl0, hlm]; rfl) ?_
  refine W.ite (by simp [hl0, hlm]; first | rfl | exact (Bool.not_not _).symm) (fun hc1 => ?_) (fun hc1 => ?_)
  ·
    try simp at hc1
    obtain rfl : l.length = many := by omega
    have qyl := hy l rfl hl
    refine W.drawT hm 3 [] (deps := [[], [], [1], [1, 2, 0], [0, 2, 1, 3]]) (by rfl) (by rfl) ?_
    refine WDraw.n hΓ 2 1 rfl (by simp [hl0, hlm, hc1]; exact ⟨rfl, rfl, rfl⟩) rfl ?_
    refine WDraw.callD (by simp [hl0, hlm, hc1]; rfl) rfl rfl rfl [] rfl (by simp [hl0, hlm, hc1]; first | rfl | exact ⟨rfl, rfl⟩) (by simp [hl0, hlm, hc1]; rfl) rfl rfl (.inl rfl) ?_
    refine CallD.mk (CloneN_ok l hl0 (by omega)) (by simp [hl0, hlm, hc1]) ⟨(by simp [hl0, hlm, hc1]), _, (by simp [hl0, hlm, hc1]; rfl), ?_⟩
    refine WDraw.done (by simp [hl0, hlm, hc1]; rfl) ?_
    refine WOps.yieldD (vals := (l.map natV)) rfl rfl rfl (by simp [hl0, hlm, hc1]; all_goals first | rfl | exact ⟨rfl, rfl⟩ | exact ⟨rfl, rfl, rfl⟩) (by simp [hl0, hlm, hc1]; all_goals first | rfl | exact ⟨rfl, rfl⟩ | exact ⟨rfl, rfl, rfl⟩) (by simp [hl0, hlm, hc1]; all_goals first | rfl | exact ⟨rfl, rfl⟩ | exact ⟨rfl, rfl, rfl⟩) (by simp [hl0, hlm, hc1]; all_goals first | rfl | exact ⟨rfl, rfl⟩ | exact ⟨rfl, rfl, rfl⟩) (by first | exact map_natV _ | simp) (by simp) (by simp [hl0, hlm, hc1]; all_goals omega) rfl (qyl) ?_
    refine WOps.norm (by simp [hl0, hlm, hc1]; rfl) ?_
    refine WOps.n hΓ 1 (by simp [hl0, hlm, hc1]; first | rfl | exact ⟨rfl, rfl⟩) rfl ?_
    refine WOps.endK ?_
    refine W.keep [8] (by simp [hl0, hlm, hc1]; rfl) ?_
    refine W.ret ?_
    refine thenQ_r ?_
    clear hK1 K1
    refine EndQ.r false [] [(10000, 10000), (10001, 10001), (10002, 10002), (10003, 10003), (10005, 10005), (19999, 19999)] (by simp [hl0, hlm, hc1]; first | rfl | exact ⟨rfl, rfl⟩) ?_
    -- 1 end
    exact ⟨by rw [gr_full rfl, isNone_one], by rw [gr_full rfl, Jof_one]⟩
  ·
    try simp at hc1
    refine W.skip ?_
    refine thenQ_n (hK1 _ ?_)
    clear hK1 K1
    refine W.seqk fun K2 hK2 => ?_
    refine W.regK hΓ [0, 4, 5, 9] (by simp [hl0, hlm, hc1]; rfl) ?_
    refine W.block ?_
    refine W.loopU (α := Nat) [0, 4, 5] [27, 28, 31] [] (fun i => [(9, I i)]) (fun i => []) (fun i => next ≤ i ∧ (gr n many (f + 1) l next).find? stop = ((List.range' i (n - i)).flatMap fun i => gr n many f (l ++ [i]) (i + 1)).find? stop) (fun i => n - i) next rfl (by simp [hl0, hlm, hc1]; rfl) (by simp [hl0, hlm, hc1]; rfl) ?_ ?_ ?_
    ·
      refine Le.fit (by simp [hl0, hlm, hc1]; rfl) (by rfl) (by rfl) (by rfl) ?_ ?_
      ·
        try (simp [hl0, hlm, hc1])
        all_goals (
          -- 2 init.tmps
          first | done | omega | (simp_all; done) | (simp_all; omega)
        )
      ·
        try (simp [hl0, hlm, hc1])
        all_goals (
          -- 3 init.objs
          first | done | omega | (simp_all; done) | (simp_all; omega)
        )
    ·
      -- 4 init.inv
      exact ⟨Nat.le_refl _, by rw [gr_go (by omega)]⟩
    ·
      intro i hI0
      simp only [List.cons_append, List.nil_append]
      try dsimp only at hI0
      obtain ⟨hni, he⟩ := hI0
      refine W.seqk fun K3 hK3 => ?_
      refine W.regK hΓ [0, 4, 5, 9, 21] (by simp [hl0, hlm, hc1]; rfl) ?_
      refine W.ite (by simp [hl0, hlm, hc1]; first | rfl | exact (Bool.not_not _).symm) (fun hc2 => ?_) (fun hc2 => ?_)
      ·
        try simp at hc2
        have hlt : l.length + 1 ≤ many := by omega
        have qy : ∀ y ∈ l ++ [i], y < n := by intro y hy; rcases List.mem_append.1 hy with h | h; exact hl y h; simp at h; omega
        refine W.skip ?_
        refine thenQ_n (hK3 _ ?_)
        clear hK3 K3
        refine W.seqk fun K4 hK4 => ?_
        refine W.block ?_
        by_cases hroom : l.length + 1 ≤ cap
        ·
          have qih := ih (l ++ [i]) i cap (by simp) (by simp; omega) qy (by simp; omega) (by omega)
          simp only [List.map_append, List.map_cons, List.map_nil, List.length_append, List.length_cons, List.length_nil, Nat.zero_add, nI_def] at qih
          refine W.drawT hm 7 [(4, [10005])] (deps := [[], [], [], [2], [2, 3, 1], [], [5], [5, 6, 1, 3, 2, 4, 0], [0, 4, 2, 3, 1, 6, 5, 7]]) (by rfl) (by rfl) ?_
          refine WDraw.n hΓ 4 3 rfl (by simp [hl0, hlm, hc1, hc2, hlt, hroom]; exact ⟨rfl, rfl, rfl⟩) rfl ?_
          refine WDraw.app hΓ [10005] (by simp [hl0, hlm, hc1, hc2, hlt, hroom]; rfl) (by first | rfl | simp) (by simp [hl0, hlm, hc1, hc2, hlt, hroom]; (try (simp (disch := omega) only [wrap_i64, mul_i64, capOk_of]; (try simp [hl0, hlm, hc1, hc2, hlt, hroom]))); first | rfl | exact ⟨rfl, rfl⟩) (by first | rfl | simp) (by simp [hl0, hlm, hc1, hc2, hlt, hroom]; first | done | rfl) (.inr (by simp)) (by simp [hl0, hlm, hc1, hc2, hlt, hroom]; rfl) ?_
          refine WDraw.n hΓ 2 0 rfl (by simp [hl0, hlm, hc1, hc2, hlt, hroom]; (try (simp (disch := omega) only [wrap_i64, mul_i64, capOk_of]; (try simp [hl0, hlm, hc1, hc2, hlt, hroom]))); exact ⟨rfl, rfl, rfl⟩) rfl ?_
          refine WDraw.done (by simp [hl0, hlm, hc1, hc2, hlt, hroom]; rfl) ?_
          refine WOps.call rfl rfl rfl rfl [(10000, 10000), (10001, 10001), (10002, 10002), (10003, 10003), (10005, 10005), (19999, 19999)] rfl rfl (by decide) (by simp [hl0, hlm, hc1, hc2, hlt, hroom]; first | rfl | exact ⟨rfl, rfl⟩) (by simp [hl0, hlm, hc1, hc2, hlt, hroom]; rfl) ?_
          refine CallT.mk (qih) (by simp [hl0, hlm, hc1, hc2, hlt, hroom]) ?_
          refine WOps.norm (by simp [hl0, hlm, hc1, hc2, hlt, hroom]; rfl) ?_
          refine WOps.n hΓ 1 (by simp [hl0, hlm, hc1, hc2, hlt, hroom]; first | rfl | exact ⟨rfl, rfl⟩) rfl ?_
          refine WOps.endK ?_
          refine W.keep [0, 4, 5, 9, 32] (by simp [hl0, hlm, hc1, hc2, hlt, hroom]; rfl) ?_
          refine W.ite (by simp [hl0, hlm, hc1, hc2, hlt, hroom]; first | rfl | exact (Bool.not_not _).symm) (fun hc3 => ?_) (fun hc3 => ?_)
          ·
            try simp at hc3
            have q0 : ∃ x, x ∈ gr n many f (l ++ [i]) (i + 1) ∧ stop x = true := by assumption
            obtain ⟨g0, qg⟩ : ∃ g0, (gr n many f (l ++ [i]) (i + 1)).find? stop = some g0 := by
              cases hg0 : (gr n many f (l ++ [i]) (i + 1)).find? stop with
              | none =>
                obtain ⟨x, hx, hs⟩ := q0
                have := List.find?_eq_none.1 hg0 x hx
                simp [hs] at this
              | some g0 => exact ⟨g0, rfl⟩
            have htk : List.take l.length (List.map nI l ++ [I (i : Int)]) = List.map nI l := List.take_left' (by simp)
            have qr : (gr n many (f + 1) l next).find? stop = some g0 := by rw [he, find_step hc2, qg]; rfl
            refine W.weaken (Le.fixTake 10005 l.length (by simp; exact ⟨rfl, rfl, rfl, rfl⟩)) ?_
            refine W.regK hΓ [8] (by simp [hl0, hlm, hc1, hc2, hlt, hroom, hc3, htk]; rfl) ?_
            refine W.ret ?_
            refine blockQ_r ?_
            refine thenQ_r ?_
            clear hK4 K4
            refine thenQ_r ?_
            refine blockQ_r ?_
            refine thenQ_r ?_
            clear hK2 K2
            refine EndQ.r false [] [(10000, 10000), (10001, 10001), (10002, 10002), (10003, 10003), (10005, 10005), (19999, 19999)] (by simp [hl0, hlm, hc1, hc2, hlt, hroom, hc3, htk]; first | rfl | exact ⟨rfl, rfl⟩) ?_
            -- 5 end
            exact ⟨by rw [qr]; rfl, by rw [qr, qg]⟩
          ·
            try simp at hc3
            refine W.skip ?_
            refine blockQ_n ?_
            refine thenQ_n (hK4 _ ?_)
            clear hK4 K4
            have q0 : ∀ x ∈ gr n many f (l ++ [i]) (i + 1), stop x = false := by assumption
            have hfn : (gr n many f (l ++ [i]) (i + 1)).find? stop = none := List.find?_eq_none.2 (fun x hx => by simp [q0 x hx])
            have htk : List.take l.length (List.map nI l ++ [I (i : Int)]) = List.map nI l := List.take_left' (by simp)
            refine W.weaken (Le.fixTake 10005 l.length (by simp; exact ⟨rfl, rfl, rfl, rfl⟩)) ?_
            refine W.regE hΓ (by simp [hl0, hlm, hc1, hc2, hlt, hroom, hc3, hfn, htk]; (try (simp (disch := omega) only [wrap_i64, mul_i64, capOk_of]; (try simp [hl0, hlm, hc1, hc2, hlt, hroom, hc3, hfn, htk]))); rfl) ?_
            refine ⟨i + 1, Le.fit (by simp [hl0, hlm, hc1, hc2, hlt, hroom, hc3, hfn, htk]; rfl) (by rfl) (by rfl) (by rfl) ?_ ?_, ?_, ?_⟩
            ·
              try (simp [hl0, hlm, hc1, hc2, hlt, hroom, hc3, hfn, htk])
              all_goals (
                -- 6 back.tmps
                first | done | omega | (simp_all; done) | (simp_all; omega)
              )
            ·
              try (simp [hl0, hlm, hc1, hc2, hlt, hroom, hc3, hfn, htk])
              all_goals (
                -- 7 back.objs
                first | done | omega | (simp_all; done) | (simp_all; omega)
              )
            ·
              -- 8 back.inv
              exact ⟨by omega, by rw [he, find_step hc2, hfn]; rfl⟩
            ·
              -- 9 back.meas
              first | done | omega | (simp_all; done) | (simp_all; omega)
        ·
          refine W.drawT hm 7 [] (deps := [[], [], [], [2], [2, 3, 1], [], [5], [5, 6, 1, 3, 2, 4, 0], [0, 4, 2, 3, 1, 6, 5, 7]]) (by rfl) (by rfl) ?_
          refine WDraw.n hΓ 4 3 rfl (by simp [hl0, hlm, hc1, hc2, hlt, hroom]; exact ⟨rfl, rfl, rfl⟩) rfl ?_
          refine WDraw.app hΓ [] (by simp [hl0, hlm, hc1, hc2, hlt, hroom]; rfl) (by first | rfl | simp) (by simp [hl0, hlm, hc1, hc2, hlt, hroom]; (try (simp (disch := omega) only [wrap_i64, mul_i64, capOk_of]; (try simp [hl0, hlm, hc1, hc2, hlt, hroom]))); first | rfl | exact ⟨rfl, rfl⟩) (by first | rfl | simp) (by simp [hl0, hlm, hc1, hc2, hlt, hroom]; first | done | rfl) (.inl rfl) (by simp [hl0, hlm, hc1, hc2, hlt, hroom]; rfl) ?_
          refine WDraw.n hΓ 2 0 rfl (by simp [hl0, hlm, hc1, hc2, hlt, hroom]; (try (simp (disch := omega) only [wrap_i64, mul_i64, capOk_of]; (try simp [hl0, hlm, hc1, hc2, hlt, hroom]))); exact ⟨rfl, rfl, rfl⟩) rfl ?_
          refine WDraw.done (by simp [hl0, hlm, hc1, hc2, hlt, hroom]; rfl) ?_
          refine WOps.fixed 224 (by simp [hl0, hlm, hc1, hc2, hlt, hroom]; first | rfl | exact ⟨rfl, rfl, rfl⟩) rfl rfl fun cap2 hcap2 => ?_
          (try simp at hcap2)
          refine WOps.norm (by simp [hl0, hlm, hc1, hc2, hlt, hroom]; rfl) ?_
          have qih := ih (l ++ [i]) i cap2 (by simp) (by simp; omega) qy (by simp; omega) (by omega)
          simp only [List.map_append, List.map_cons, List.map_nil, List.length_append, List.length_cons, List.length_nil, Nat.zero_add, nI_def] at qih
          refine WOps.call rfl rfl rfl rfl [(10000, 10000), (10001, 10001), (10002, 10002), (10003, 10003), (10005, 224), (19999, 19999)] rfl rfl (by decide) (by simp [hl0, hlm, hc1, hc2, hlt, hroom]; first | rfl | exact ⟨rfl, rfl⟩) (by simp [hl0, hlm, hc1, hc2, hlt, hroom]; rfl) ?_
          refine CallT.mk (qih) (by simp [hl0, hlm, hc1, hc2, hlt, hroom]) ?_
          refine WOps.norm (by simp [hl0, hlm, hc1, hc2, hlt, hroom]; rfl) ?_
          refine WOps.n hΓ 1 (by simp [hl0, hlm, hc1, hc2, hlt, hroom]; first | rfl | exact ⟨rfl, rfl⟩) rfl ?_
          refine WOps.endK ?_
          refine W.keep [0, 4, 5, 9, 32] (by simp [hl0, hlm, hc1, hc2, hlt, hroom]; rfl) ?_
          refine W.ite (by simp [hl0, hlm, hc1, hc2, hlt, hroom]; first | rfl | exact (Bool.not_not _).symm) (fun hc4 => ?_) (fun hc4 => ?_)
          ·
            try simp at hc4
            have q0 : ∃ x, x ∈ gr n many f (l ++ [i]) (i + 1) ∧ stop x = true := by assumption
            obtain ⟨g0, qg⟩ : ∃ g0, (gr n many f (l ++ [i]) (i + 1)).find? stop = some g0 := by
              cases hg0 : (gr n many f (l ++ [i]) (i + 1)).find? stop with
              | none =>
                obtain ⟨x, hx, hs⟩ := q0
                have := List.find?_eq_none.1 hg0 x hx
                simp [hs] at this
              | some g0 => exact ⟨g0, rfl⟩
            have htk : List.take l.length (List.map nI l ++ [I (i : Int)]) = List.map nI l := List.take_left' (by simp)
            have qr : (gr n many (f + 1) l next).find? stop = some g0 := by rw [he, find_step hc2, qg]; rfl
            refine W.weaken (Le.fixTake 10005 l.length (by simp; exact ⟨rfl, rfl, rfl, rfl⟩)) ?_
            refine W.regK hΓ [8] (by simp [hl0, hlm, hc1, hc2, hlt, hroom, hc4, htk]; rfl) ?_
            refine W.ret ?_
            refine blockQ_r ?_
            refine thenQ_r ?_
            clear hK4 K4
            refine thenQ_r ?_
            refine blockQ_r ?_
            refine thenQ_r ?_
            clear hK2 K2
            refine EndQ.r false [] [(10000, 10000), (10001, 10001), (10002, 10002), (10003, 10003), (10005, 10005), (19999, 19999)] (by simp [hl0, hlm, hc1, hc2, hlt, hroom, hc4, htk]; first | rfl | exact ⟨rfl, rfl⟩) ?_
            -- 10 end
            exact ⟨by rw [qr]; rfl, by rw [qr, qg]⟩
          ·
            try simp at hc4
            refine W.skip ?_
            refine blockQ_n ?_
            refine thenQ_n (hK4 _ ?_)
            clear hK4 K4
            have q0 : ∀ x ∈ gr n many f (l ++ [i]) (i + 1), stop x = false := by assumption
            have hfn : (gr n many f (l ++ [i]) (i + 1)).find? stop = none := List.find?_eq_none.2 (fun x hx => by simp [q0 x hx])
            have htk : List.take l.length (List.map nI l ++ [I (i : Int)]) = List.map nI l := List.take_left' (by simp)
            refine W.weaken (Le.fixTake 10005 l.length (by simp; exact ⟨rfl, rfl, rfl, rfl⟩)) ?_
            refine W.regE hΓ (by simp [hl0, hlm, hc1, hc2, hlt, hroom, hc4, hfn, htk]; (try (simp (disch := omega) only [wrap_i64, mul_i64, capOk_of]; (try simp [hl0, hlm, hc1, hc2, hlt, hroom, hc4, hfn, htk]))); rfl) ?_
            refine ⟨i + 1, Le.fit (by simp [hl0, hlm, hc1, hc2, hlt, hroom, hc4, hfn, htk]; rfl) (by rfl) (by rfl) (by rfl) ?_ ?_, ?_, ?_⟩
            ·
              try (simp [hl0, hlm, hc1, hc2, hlt, hroom, hc4, hfn, htk])
              all_goals (
                -- 11 back.tmps
                first | done | omega | (simp_all; done) | (simp_all; omega)
              )
            ·
              try (simp [hl0, hlm, hc1, hc2, hlt, hroom, hc4, hfn, htk])
              all_goals (
                -- 12 back.objs
                first | done | omega | (simp_all; done) | (simp_all; omega)
              )
            ·
              -- 13 back.inv
              exact ⟨by omega, by rw [he, find_step hc2, hfn]; rfl⟩
            ·
              -- 14 back.meas
              first | done | omega | (simp_all; done) | (simp_all; omega)
      ·
        try simp at hc2
        refine W.exit ?_
        refine thenQ_e ?_
        clear hK3 K3
        refine thenQ_e ?_
        refine blockQ_s ?_
        refine thenQ_n (hK2 _ ?_)
        clear hK2 K2
        refine W.regK hΓ [8] (by simp [hl0, hlm, hc1, hc2]; rfl) ?_
        refine W.ret ?_
        refine EndQ.r false [] [(10000, 10000), (10001, 10001), (10002, 10002), (10003, 10003), (10005, 10005), (19999, 19999)] (by simp [hl0, hlm, hc1, hc2]; first | rfl | exact ⟨rfl, rfl⟩) ?_
        -- 15 end
        have qr : (gr n many (f + 1) l next).find? stop = none := by rw [he, find_done hc2]
        exact ⟨by rw [qr]; rfl, by rw [qr]; rfl⟩
theorem walk_ok (n many : Nat) (stop : List Nat → Bool) (lp : Nat) (J0 : World → (Nat → Prop) → Prop) (JX : List Nat → World → (Nat → Prop) → Prop) (hn8 : n ≤ 8) (hm0 : 0 < many) (hy : ∀ g : List Nat, g.length = many → (∀ y ∈ g, y < n) → YieldOk Try.prog lp J0 3 (g.map natV) (fun t J' => t = !stop g ∧ J' = if stop g then JX g else J0)) (hm8 : many ≤ 8) : ∀ (f : Nat) (l : List Nat) (next cap : Nat), l.length ≤ many → (∀ y ∈ l, y < n) → 0 < l.length → l.length ≤ cap → many < f + l.length → ACalls Try.prog 80 [.own 10005 0 l.length, I ((next : Nat) : Int), .ptr 10000 0 0, .ptr 10001 0 0, .ptr 10002 0 0, .ptr 10003 0 0] [(10000, .row false 3 1 [I many]), (10001, .row false 56 1 [.yld 19999]), (10002, .row false 3 1 [I n]), (10003, .row false 82 1 [.clo 80 [.ptr 10000 0 0, .ptr 10001 0 0, .ptr 10002 0 0, .ptr 10003 0 0]]), (10005, .fix 3 1 cap (l.map nI)), (19999, .ext lp J0)] (fun r o => r = B ((gr n many f l next).find? stop).isNone ∧ o = [(10000, .row false 3 1 [I many]), (10001, .row false 56 1 [.yld 19999]), (10002, .row false 3 1 [I n]), (10003, .row false 82 1 [.clo 80 [.ptr 10000 0 0, .ptr 10001 0 0, .ptr 10002 0 0, .ptr 10003 0 0]]), (10005, .fix 3 1 cap (l.map nI)), (19999, .ext lp (Jof J0 JX ((gr n many f l next).find? stop)))])
  | 0, l, next, cap, h1, h2, h3, h4, h5 => by omega
  | f + 1, l, next, cap, h1, h2, h3, h4, h5 => walk_own n many stop lp J0 JX hn8 hm0 hy f next cap l h3 h1 h2 hm8 h4 fun l' i cap' k0 k1 k2 k3 _ => walk_ok n many stop lp J0 JX hn8 hm0 hy hm8 f l' (i + 1) cap' k1 k2 (by omega) k3 (by omega)
set_option maxHeartbeats 4000000 in
theorem walk_nil (n many : Nat) (stop : List Nat → Bool) (lp : Nat) (J0 : World → (Nat → Prop) → Prop) (JX : List Nat → World → (Nat → Prop) → Prop) (hn8 : n ≤ 8) (hm0 : 0 < many) (hy : ∀ g : List Nat, g.length = many → (∀ y ∈ g, y < n) → YieldOk Try.prog lp J0 3 (g.map natV) (fun t J' => t = !stop g ∧ J' = if stop g then JX g else J0)) (hm8 : many ≤ 8) (f : Nat) (hf : many ≤ f) : ACalls Try.prog 80 [.val (.slice none 0 0), I 0, .ptr 10000 0 0, .ptr 10001 0 0, .ptr 10002 0 0, .ptr 10003 0 0] [(10000, .row false 3 1 [I many]), (10001, .row false 56 1 [.yld 19999]), (10002, .row false 3 1 [I n]), (10003, .row false 82 1 [.clo 80 [.ptr 10000 0 0, .ptr 10001 0 0, .ptr 10002 0 0, .ptr 10003 0 0]]), (19999, .ext lp J0)] (fun r o => r = B ((gr n many (f + 1) [] 0).find? stop).isNone ∧ o = [(10000, .row false 3 1 [I many]), (10001, .row false 56 1 [.yld 19999]), (10002, .row false 3 1 [I n]), (10003, .row false 82 1 [.clo 80 [.ptr 10000 0 0, .ptr 10001 0 0, .ptr 10002 0 0, .ptr 10003 0 0]]), (19999, .ext lp (Jof J0 JX ((gr n many (f + 1) [] 0).find? stop)))]) := by
  refine ACalls.enter hΓ Try.func80 rfl (by kernel_rfl) Try.ntmps80 (by rw [Try.results80]) (by simp) (by simp; rfl) ?_
  have hmz : ¬ (0 : Int) = (many : Int) := by omega
  have hmz2 : ¬ (many : Int) = 0 := by omega
  have hmz3 : ¬ many = 0 := by omega
  refine W.regK hΓ [0, 1, 2, 3, 4, 5] (by simp [hmz, hmz2, hmz3]; rfl) ?_
  refine W.seqk fun K1 hK1 => ?_
  refine W.regK hΓ [0, 1, 3, 4, 5, 13] (by simp [hmz, hmz2, hmz3]; rfl) ?_
  refine W.cond (t := false) (by simp [hmz, hmz2, hmz3]) ?_
  simp only [if_true, Bool.false_eq_true, if_false]
  refine W.skip ?_
  refine thenQ_n (hK1 _ ?_)
  clear hK1 K1
  refine W.seqk fun K2 hK2 => ?_
  refine W.regK hΓ [0, 4, 5, 9] (by simp [hmz, hmz2, hmz3]; rfl) ?_
  refine W.block ?_
  refine W.loopU (α := Nat) [0, 4, 5] [27, 28, 31] [] (fun i => [(9, I i)]) (fun i => []) (fun i => 0 ≤ i ∧ (gr n many (f + 1) [] 0).find? stop = ((List.range' i (n - i)).flatMap fun i => gr n many f ([] ++ [i]) (i + 1)).find? stop) (fun i => n - i) 0 rfl (by simp [hmz, hmz2, hmz3]; rfl) (by simp [hmz, hmz2, hmz3]; rfl) ?_ ?_ ?_
  ·
    refine Le.fit (by simp [hmz, hmz2, hmz3]; rfl) (by rfl) (by rfl) (by rfl) ?_ ?_
    ·
      try (simp [hmz, hmz2, hmz3])
      all_goals (
        -- 1 init.tmps
        first | done | omega | (simp_all; done) | (simp_all; omega)
      )
    ·
      try (simp [hmz, hmz2, hmz3])
      all_goals (
        -- 2 init.objs
        first | done | omega | (simp_all; done) | (simp_all; omega)
      )
  ·
    -- 3 init.inv
    exact ⟨Nat.le_refl _, by rw [gr_go (by simp; omega)]⟩
  ·
    intro i hI0
    simp only [List.cons_append, List.nil_append]
    try dsimp only at hI0
    obtain ⟨hi0, he⟩ := hI0
    refine W.seqk fun K3 hK3 => ?_
    refine W.regK hΓ [0, 4, 5, 9, 21] (by simp [hmz, hmz2, hmz3]; rfl) ?_
    refine W.ite (by simp [hmz, hmz2, hmz3]; first | rfl | exact (Bool.not_not _).symm) (fun hc2 => ?_) (fun hc2 => ?_)
    ·
      try simp at hc2
      refine W.skip ?_
      refine thenQ_n (hK3 _ ?_)
      clear hK3 K3
      refine W.seqk fun K4 hK4 => ?_
      refine W.block ?_
      refine W.drawT hm 7 [] (deps := [[], [], [], [2], [2, 3, 1], [], [5], [5, 6, 1, 3, 2, 4, 0], [0, 4, 2, 3, 1, 6, 5, 7]]) (by rfl) (by rfl) ?_
      refine WDraw.n hΓ 4 3 rfl (by simp [hmz, hmz2, hmz3, hc2]; exact ⟨rfl, rfl, rfl⟩) rfl ?_
      refine WDraw.app hΓ [] (by simp [hmz, hmz2, hmz3, hc2]; rfl) (by first | rfl | simp) (by simp [hmz, hmz2, hmz3, hc2]; (try (simp (disch := omega) only [wrap_i64, mul_i64, capOk_of]; (try simp [hmz, hmz2, hmz3, hc2]))); first | rfl | exact ⟨rfl, rfl⟩) (by first | rfl | simp) (by simp [hmz, hmz2, hmz3, hc2]; first | done | rfl) (.inl rfl) (by simp [hmz, hmz2, hmz3, hc2]; rfl) ?_
      refine WDraw.n hΓ 2 0 rfl (by simp [hmz, hmz2, hmz3, hc2]; (try (simp (disch := omega) only [wrap_i64, mul_i64, capOk_of]; (try simp [hmz, hmz2, hmz3, hc2]))); exact ⟨rfl, rfl, rfl⟩) rfl ?_
      refine WDraw.done (by simp [hmz, hmz2, hmz3, hc2]; rfl) ?_
      refine WOps.fixed 224 (by simp [hmz, hmz2, hmz3, hc2]; first | rfl | exact ⟨rfl, rfl, rfl⟩) rfl rfl fun cap2 hcap2 => ?_
      (try simp at hcap2)
      refine WOps.norm (by simp [hmz, hmz2, hmz3, hc2]; rfl) ?_
      have qih := walk_ok n many stop lp J0 JX hn8 hm0 hy hm8 f [i] (i + 1) cap2 (by simp; omega) (by simpa using hc2) (by simp) (by simp; omega) (by simp; omega)
      simp only [List.map_cons, List.map_nil, List.length_cons, List.length_nil, Nat.zero_add, nI_def, Int.natCast_add, Int.cast_ofNat_Int] at qih
      refine WOps.call rfl rfl rfl rfl [(10000, 10000), (10001, 10001), (10002, 10002), (10003, 10003), (10005, 224), (19999, 19999)] rfl rfl (by decide) (by simp [hmz, hmz2, hmz3, hc2]; first | rfl | exact ⟨rfl, rfl⟩) (by simp [hmz, hmz2, hmz3, hc2]; rfl) ?_
      refine CallT.mk (qih) (by simp [hmz, hmz2, hmz3, hc2]) ?_
      refine WOps.norm (by simp [hmz, hmz2, hmz3, hc2]; rfl) ?_
      refine WOps.n hΓ 1 (by simp [hmz, hmz2, hmz3, hc2]; first | rfl | exact ⟨rfl, rfl⟩) rfl ?_
      refine WOps.endK ?_
      refine W.keep [0, 4, 5, 9, 32] (by simp [hmz, hmz2, hmz3, hc2]; rfl) ?_
      refine W.ite (by simp [hmz, hmz2, hmz3, hc2]; first | rfl | exact (Bool.not_not _).symm) (fun hc3 => ?_) (fun hc3 => ?_)
      ·
        try simp at hc3
        have q0 : ∃ x, x ∈ gr n many f [i] (i + 1) ∧ stop x = true := by assumption
        obtain ⟨g0, qg⟩ : ∃ g0, (gr n many f [i] (i + 1)).find? stop = some g0 := by
          cases hg0 : (gr n many f [i] (i + 1)).find? stop with
          | none =>
            obtain ⟨x, hx, hs⟩ := q0
            have := List.find?_eq_none.1 hg0 x hx
            simp [hs] at this
          | some g0 => exact ⟨g0, rfl⟩
        have qr : (gr n many (f + 1) [] 0).find? stop = some g0 := by rw [he, find_step hc2, List.nil_append, qg]; rfl
        refine W.regK hΓ [8] (by simp [hmz, hmz2, hmz3, hc2, hc3]; rfl) ?_
        refine W.ret ?_
        refine blockQ_r ?_
        refine thenQ_r ?_
        clear hK4 K4
        refine thenQ_r ?_
        refine blockQ_r ?_
        refine thenQ_r ?_
        clear hK2 K2
        refine EndQ.r false [] [(10000, 10000), (10001, 10001), (10002, 10002), (10003, 10003), (19999, 19999)] (by simp [hmz, hmz2, hmz3, hc2, hc3]; first | rfl | exact ⟨rfl, rfl⟩) ?_
        -- 4 end
        exact ⟨by rw [qr]; rfl, by rw [qr, qg]⟩
      ·
        try simp at hc3
        refine W.skip ?_
        refine blockQ_n ?_
        refine thenQ_n (hK4 _ ?_)
        clear hK4 K4
        have q0 : ∀ x ∈ gr n many f [i] (i + 1), stop x = false := by assumption
        have hfn : (gr n many f [i] (i + 1)).find? stop = none := List.find?_eq_none.2 (fun x hx => by simp [q0 x hx])
        refine W.regE hΓ (by simp [hmz, hmz2, hmz3, hc2, hc3, hfn]; (try (simp (disch := omega) only [wrap_i64, mul_i64, capOk_of]; (try simp [hmz, hmz2, hmz3, hc2, hc3, hfn]))); rfl) ?_
        refine ⟨i + 1, Le.fit (by simp [hmz, hmz2, hmz3, hc2, hc3, hfn]; rfl) (by rfl) (by rfl) (by rfl) ?_ ?_, ?_, ?_⟩
        ·
          try (simp [hmz, hmz2, hmz3, hc2, hc3, hfn])
          all_goals (
            -- 5 back.tmps
            first | done | omega | (simp_all; done) | (simp_all; omega)
          )
        ·
          try (simp [hmz, hmz2, hmz3, hc2, hc3, hfn])
          all_goals (
            -- 6 back.objs
            first | done | omega | (simp_all; done) | (simp_all; omega)
          )
        ·
          -- 7 back.inv
          exact ⟨by omega, by rw [he, find_step hc2, List.nil_append, hfn]; rfl⟩
        ·
          -- 8 back.meas
          first | done | omega | (simp_all; done) | (simp_all; omega)
    ·
      try simp at hc2
      refine W.exit ?_
      refine thenQ_e ?_
      clear hK3 K3
      refine thenQ_e ?_
      refine blockQ_s ?_
      refine thenQ_n (hK2 _ ?_)
      clear hK2 K2
      refine W.regK hΓ [8] (by simp [hmz, hmz2, hmz3, hc2]; rfl) ?_
      refine W.ret ?_
      refine EndQ.r false [] [(10000, 10000), (10001, 10001), (10002, 10002), (10003, 10003), (19999, 19999)] (by simp [hmz, hmz2, hmz3, hc2]; first | rfl | exact ⟨rfl, rfl⟩) ?_
      -- 9 end
      have qr : (gr n many (f + 1) [] 0).find? stop = none := by rw [he, find_done hc2]
      exact ⟨by rw [qr]; rfl, by rw [qr]; rfl⟩
/-- what stops whoever ranges over the groups -/
def foundG (n many : Nat) (stop : List Nat → Bool) : Option (List Nat) := (gr n many (many + 1) [] 0).find? stop
set_option maxHeartbeats 4000000 in
theorem groups1_ok (n many : Nat) (stop : List Nat → Bool) (lp : Nat) (J0 : World → (Nat → Prop) → Prop) (JX : List Nat → World → (Nat → Prop) → Prop) (hn8 : n ≤ 8) (hm0 : 0 < many) (hy : ∀ g : List Nat, g.length = many → (∀ y ∈ g, y < n) → YieldOk Try.prog lp J0 3 (g.map natV) (fun t J' => t = !stop g ∧ J' = if stop g then JX g else J0)) (hm8 : many ≤ 8) : ACalls Try.prog 79 [.yld 19999, .ptr 10000 0 0, .ptr 10001 0 0] [(19999, .ext lp J0), (10000, .row false 3 1 [I many]), (10001, .row false 3 1 [I n])] (fun r o => o = [(19999, .ext lp (Jof J0 JX (foundG n many stop))), (10000, .row false 3 1 [I many]), (10001, .row false 3 1 [I n])]) := by
  refine ACalls.enter hΓ Try.func79 rfl (by kernel_rfl) Try.ntmps79 (by rw [Try.results79]) (by simp) (by simp; rfl) ?_
  refine W.regK hΓ [1, 2, 3] (by simp; rfl) ?_
  refine W.regK hΓ [1, 2, 3, 4] (by simp; rfl) ?_
  refine W.regK hΓ [4] (by simp; rfl) ?_
  refine W.region ?_
  refine WOps.n hΓ 1 (by simp; first | rfl | exact ⟨rfl, rfl⟩) rfl ?_
  refine WOps.callN rfl rfl rfl rfl [(10000, 10000), (10001, 24), (10002, 10001), (10003, 32), (19999, 19999)] rfl rfl (by decide) (by simp; first | rfl | exact ⟨rfl, rfl⟩) (by simp; rfl) (by simp; rfl) ?_
  refine CallT.mk (walk_nil n many stop lp J0 JX hn8 hm0 hy hm8 many (Nat.le_refl _)) (by simp) ?_
  refine WOps.norm (by simp; rfl) ?_
  refine WOps.endK ?_
  refine EndQ.n false [] [(19999, 19999), (10000, 10000), (10001, 10001)] (by simp; first | rfl | exact ⟨rfl, rfl⟩) ?_
  -- 1 end
  rfl
set_option maxHeartbeats 4000000 in
theorem groups_ok (n many : Nat) : ACalls Try.prog 57 [I n, I many] [] (fun r o => r = .clo 79 [.ptr 20000 0 0, .ptr 20001 0 0] ∧ o = [(20000, .row false 3 1 [I many]), (20001, .row false 3 1 [I n])]) := by
  refine ACalls.enter hΓ Try.func57 rfl (by kernel_rfl) Try.ntmps57 (by rw [Try.results57]) (by simp) (by simp; rfl) ?_
  refine W.regK hΓ [2, 3] (by simp; rfl) ?_
  refine W.regK hΓ [4] (by simp; rfl) ?_
  refine W.ret ?_
  refine EndQ.r false [] [(20000, 24), (20001, 16)] (by simp; first | rfl | exact ⟨rfl, rfl⟩) ?_
  -- 1 end
  first | done | omega | (simp_all; done) | (simp_all; omega)
end Go.Sim
