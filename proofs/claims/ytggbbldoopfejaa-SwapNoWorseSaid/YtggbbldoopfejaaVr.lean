/- The reference's search for a group that blocks. -/
import Derived.Test.YtggbbldoopfejaaVo
namespace Go.Sim
open Go.Proofs Go.Plain
set_option maxRecDepth 100000
set_option linter.unusedSimpArgs false
set_option linter.unusedVariables false
attribute [-simp] List.map_set List.map_take List.map_drop
attribute [local simp] take_map' drop_map'
section
variable {P : Program} {Γ : TypeId → Option TI} {ops rest : List Oper} {deps : List (List Nat)} {eff : List (Nat × List Nat)} {s0 v : St} {K : St → Prop} {n k : Nat} {ents ents' : List REnt} {o : Oper}
theorem DGt.app (hΓ : TOk P Γ) (ids : List Nat) {r : AV} {new : List (Nat × Obj)} (he : evalApp Γ o v = some (r, new)) (hf : (match slotId o with | some nid => (look nid v.objs).isNone | none => true) = true) (hn : outIn ids o v new = true) (hk : ids = [] ∨ (k, ids) ∈ eff)
    (hs : ents ++ [⟨o.dst, r, new⟩] = ents') (h : WDraw P ops deps eff s0 K n rest (k + 1) ents') : DGt P ops deps eff s0 K n o rest k ents v := fun hv hw => WDraw.app hΓ ids hv hw he hf hn hk hs h
theorem WGt.frz {st st' : St} (hl : Le st st') (hw' : wantedA ops o st' = some true) (hd : dstOk o st = true) (h : WGt P ops K o rest st') : WGt P ops K o rest st := fun hw => by
  obtain ⟨_, t, h1, h2⟩ := h hw'
  rw [hw'] at h1
  cases h1
  simp only [if_true] at h2
  refine ⟨hd, true, hw, ?_⟩
  simp only [if_true]
  intro rd a w e hc next Q hn
  obtain ⟨e2, c2, f2⟩ := hl a w e hc
  exact h2 rd a w e2 c2 next Q fun r s v w' e' hK h3 h4 h5 => hn r s v w' e' hK h3 (f2.trans h4) h5
end
theorem take_app1 {α β : Type} (f : α → β) (l : List α) (x : β) : (l.map f ++ [x]).take (l.length + 1) = l.map f ++ [x] := List.take_of_length_le (by simp)
theorem rgV_snoc (l : List Nat) (x : Nat) : rgV (l ++ [x]) = .imm (l.map nI ++ [I (x : Int)]) := by simp
set_option maxHeartbeats 4000000 in
theorem rCheckHeld_ok (ow : List Turn) (lk : List (List Turn)) (held : List Turn) : ACalls Try.prog 33 [trade ow lk, turns held] [] (fun r o => r = I (heldT ow lk held) ∧ o = []) := by
 refine ACalls.len (l := held.map T) (by simp) ⟨_, Try.func33, by kernel_rfl, by kernel_rfl⟩ fun hhl => ?_
 simp [maxLen_val] at hhl
 have F := Fx.nil
 refine ent Try.func33 Try.ntmps33 Try.results33 ?_
 refine rK [1, 2] ?_
 refine W.seqk fun K1 hK1 => ?_
 refine W.seqR ?_
 refine oN 1 ?_
 refine oC [] ?_
 refine ct (rCheck_ok _ _) ?_
 refine oN 1 ?_
 refine oK [1, 2, 5] ?_
 refine rK [1, 2, 5, 10] ?_
 refine it (fun hc1 => ?_) (fun hc1 => ?_)
 ·
  try simp at hc1
  replace F := F.add hc1
  refine rK [4] ?_
  refine W.ret ?_
  refine tr ?_
  clear hK1 K1
  refine er false [] [] ?_
  exact ⟨by rw [heldT, if_pos hc1], rfl⟩
 ·
  try simp at hc1
  replace F := F.add hc1
  have hv : ValidT ow lk := checkT_zero.1 (by simpa using hc1)
  have hn8 : ow.length ≤ 8 := hv.most
  replace F := F.add hv |>.add hn8
  refine W.skip ?_
  refine hK1 _ ?_
  clear hK1 K1
  refine W.seqk fun K2 hK2 => ?_
  refine rK [1, 2, 17] ?_
  refine it (fun hc2 => ?_) (fun hc2 => ?_)
  ·
   try simp at hc2
   replace F := F.add hc2
   refine rK [4] ?_
   refine W.ret ?_
   refine tr ?_
   clear hK2 K2
   refine er false [] [] ?_
   exact ⟨by rw [heldT, if_neg (by omega), if_pos (by omega)], rfl⟩
  ·
   try simp at hc2
   replace F := F.add hc2
   refine W.skip ?_
   refine hK2 _ ?_
   clear hK2 K2
   refine W.seqk fun K3 hK3 => ?_
   refine rK [1, 2, 6] ?_
   refine W.block ?_
   refine lpa (α := Nat) [1, 2] [20, 30, 33, 42] [] (fun i => [(6, I i)]) (fun i => []) (fun i => i ≤ held.length ∧ heldT ow lk held = chkH ow (held.take i) (held.drop i)) (fun i => held.length - i) 0 ?_ ?_
   ·
    exact ⟨by omega, by rw [heldT, if_neg (by omega), if_neg (by omega)]; rfl⟩
   ·
    intro i hI0
    simp only [List.cons_append, List.nil_append]
    try dsimp only at hI0
    obtain ⟨hil, he⟩ := hI0
    replace F := F.add hil
    refine W.seqk fun K4 hK4 => ?_
    refine rK [1, 2, 6, 21] ?_
    refine it (fun hc3 => ?_) (fun hc3 => ?_)
    ·
     try simp at hc3
     replace F := F.add hc3
     refine W.skip ?_
     refine hK4 _ ?_
     clear hK4 K4
     refine W.seqk fun K5 hK5 => ?_
     refine W.block ?_
     refine W.seqk fun K6 hK6 => ?_
     by_cases hmem : held[i] ∈ ow
     ·
      replace F := F.add hmem
      have hix : ¬ ((ow.idxOf (held[i].1, held[i].2) : Nat) : Int) = (ow.length : Int) := by have h : ow.idxOf (held[i].1, held[i].2) < ow.length := List.idxOf_lt_length_iff.2 hmem; omega
      replace F := F.add hix
      have hih : i < held.length := by omega
      replace F := F.add hih
      refine wD 10 [] [[], [0], [], [], [3, 2], [2, 3, 4], [4, 3, 2, 5, 0, 1], [], [7], [7, 8], [8, 7, 9, 1, 0, 5, 2, 3, 4, 6]] ?_
      refine dN 6 4 ?_
      refine dC [] ?_
      refine cd (At_ok _ _ _) ?_
      refine dN 3 0 ?_
      refine dD ?_
      refine oN 1 ?_
      refine oK [1, 2, 6, 34] ?_
      refine cF ?_
      refine W.skip ?_
      refine hK6 _ ?_
      clear hK6 K6
      have qix : (held.take i).idxOf (held[i].1, held[i].2) < i ↔ held[i] ∈ held.take i := idx_take_lt hih
      refine wD 9 [] [[], [], [1, 0], [], [], [4, 3], [3, 4, 5], [5, 4, 3, 6, 0, 1, 2], [], [8, 2, 1, 0, 6, 3, 4, 5, 7]] ?_
      refine dN 7 2 ?_
      refine dC [] ?_
      refine cd (At_ok _ _ _) ?_
      refine dN 1 0 ?_
      refine dD ?_
      refine oN 1 ?_
      refine oK [1, 2, 6, 44] ?_
      refine it (fun hc5 => ?_) (fun hc5 => ?_)
      ·
       try simp at hc5
       replace F := F.add hc5
       refine rK [4] ?_
       refine W.ret ?_
       refine br (tr (tr (br (tr ?_))))
       clear hK5 K5 hK3 K3
       refine er false [] [] ?_
       exact ⟨by rw [he, chkH_at hih, if_neg (fun h => h hmem), if_pos (qix.1 hc5)], rfl⟩
      ·
       try simp at hc5
       replace F := F.add hc5
       refine W.skip ?_
       refine hK5 _ ?_
       clear hK5 K5
       refine rEw ?_
       refine ⟨i + 1, lf0, ?_, v0⟩
       ·
        exact ⟨by omega, by rw [he, chkH_at hih, if_neg (fun h => h hmem), if_neg (fun h => by have := qix.2 h; omega)]⟩
     ·
      replace F := F.add hmem
      have hix : ow.idxOf (held[i].1, held[i].2) = ow.length := List.idxOf_eq_length hmem
      replace F := F.add hix
      have hih : i < held.length := by omega
      replace F := F.add hih
      refine wD 10 [] [[], [0], [], [], [3, 2], [2, 3, 4], [4, 3, 2, 5, 0, 1], [], [7], [7, 8], [8, 7, 9, 1, 0, 5, 2, 3, 4, 6]] ?_
      refine dN 6 4 ?_
      refine dC [] ?_
      refine cd (At_ok _ _ _) ?_
      refine dN 3 0 ?_
      refine dD ?_
      refine oN 1 ?_
      refine oK [1, 2, 6, 34] ?_
      refine cT ?_
      refine rK [4] ?_
      refine W.ret ?_
      refine tr (br (tr (tr (br (tr ?_)))))
      clear hK6 K6 hK5 K5 hK3 K3
      refine er false [] [] ?_
      exact ⟨by rw [he, chkH_at hih, if_pos hmem], rfl⟩
    ·
     try simp at hc3
     replace F := F.add hc3
     refine W.exit ?_
     refine hK3 _ ?_
     clear hK4 K4 hK3 K3
     refine rK [4] ?_
     refine W.ret ?_
     refine er false [] [] ?_
     exact ⟨by rw [he, List.drop_of_length_le (by omega)]; rfl, rfl⟩
/-- the place of a turn among those that a trader takes -/
def rkR (ow : List Turn) (lk : List (List Turn)) (i : Nat) (x : Turn) : Nat := (takesT ow lk i).idxOf x
set_option maxHeartbeats 4000000 in
theorem Rank_ok (ow : List Turn) (lk : List (List Turn)) (i : Nat) (x : Turn) (hi : i < ow.length) (hk : i < lk.length) (h16 : lk[i].length ≤ 1000) : ACalls Try.prog 41 [trade ow lk, I i, .agg [I x.1, I x.2]] [] (fun r o => r = I (rkR ow lk i x : Nat) ∧ o = []) := by
 have F := Fx.nil
 refine ent Try.func41 Try.ntmps41 Try.results41 ?_
 refine rK [1, 3, 5] ?_
 refine wD 4 [] [[], [], [1, 0], [], [3, 0, 1, 2], [2, 1, 0, 3, 4]] ?_
 refine dN 2 2 ?_
 refine dC [] ?_
 refine cd (Takes_imm ow lk i hi hk h16) ?_
 refine dN 1 0 ?_
 refine dD ?_
 refine oC [] ?_
 refine ct (At_ok _ _ _) ?_
 refine oN 1 ?_
 refine oK [6] ?_
 refine W.ret ?_
 refine er false [] [] ?_
 exact ⟨rfl, rfl⟩
set_option maxHeartbeats 4000000 in
theorem has_ok (l : List Nat) (x : Nat) : ACalls Try.prog 68 [rgV l, I x] [] (fun r o => r = B (decide (x ∈ l)) ∧ o = []) := by
 refine ACalls.len (l := l.map nI) (by simp) ⟨_, Try.func68, by kernel_rfl, by kernel_rfl⟩ fun hhl => ?_
 simp [maxLen_val] at hhl
 have F := Fx.nil
 refine ent Try.func68 Try.ntmps68 Try.results68 ?_
 refine rK [0, 1] ?_
 refine W.seqk fun K1 hK1 => ?_
 refine rK [0, 1, 5] ?_
 refine W.block ?_
 refine lpa (α := Nat) [0, 1] [8] [] (fun i => [(5, I i)]) (fun i => []) (fun i => i ≤ l.length ∧ decide (x ∈ l) = decide (x ∈ l.drop i)) (fun i => l.length - i) 0 v0 ?_
 ·
  intro i hI0
  simp only [List.cons_append, List.nil_append]
  try dsimp only at hI0
  obtain ⟨hil, he⟩ := hI0
  replace F := F.add hil
  refine W.seqk fun K2 hK2 => ?_
  refine rK [0, 1, 5, 9] ?_
  refine it (fun hc1 => ?_) (fun hc1 => ?_)
  ·
   try simp at hc1
   replace F := F.add hc1
   refine W.skip ?_
   refine hK2 _ ?_
   clear hK2 K2
   refine W.seqk fun K3 hK3 => ?_
   refine W.block ?_
   have hih : i < l.length := by omega
   replace F := F.add hih
   refine rK [0, 1, 5, 17] ?_
   refine it (fun hc2 => ?_) (fun hc2 => ?_)
   ·
    try simp at hc2
    replace F := F.add hc2
    refine rK [4] ?_
    refine W.ret ?_
    refine br (tr (tr (br (tr ?_))))
    clear hK3 K3 hK1 K1
    refine er false [] [] ?_
    exact ⟨congrArg B (by rw [he, List.drop_eq_getElem_cons hih, decide_eq_true (List.mem_cons.2 (.inl (by omega)))]), rfl⟩
   ·
    try simp at hc2
    replace F := F.add hc2
    refine W.skip ?_
    refine hK3 _ ?_
    clear hK3 K3
    refine rEw ?_
    refine ⟨i + 1, lf0, ?_, v0⟩
    ·
     exact ⟨by omega, by rw [he, List.drop_eq_getElem_cons hih]; exact decide_eq_decide.2 ⟨fun h => by rcases List.mem_cons.1 h with h | h; exact absurd (by omega) hc2; exact h, fun h => List.mem_cons_of_mem _ h⟩⟩
  ·
   try simp at hc1
   replace F := F.add hc1
   refine W.exit ?_
   refine hK1 _ ?_
   clear hK2 K2 hK1 K1
   refine rK [4] ?_
   refine W.ret ?_
   refine er false [] [] ?_
   exact ⟨by rw [he, List.drop_of_length_le (by omega)]; rfl, rfl⟩
/-- all lists of so many numbers, ascending, below n -/
def cho (n : Nat) : Nat → Nat → List (List Nat)
  | 0, _ => [[]]
  | m + 1, i => (List.range' i (n - i)).flatMap fun j => (cho n m (j + 1)).map (j :: ·)
/-- .. those that begin below j -/
def choK (n m i j : Nat) : List (List Nat) := (List.range' i (j - i)).flatMap fun j => (cho n m (j + 1)).map (j :: ·)
theorem choK_self (n m i : Nat) : choK n m i i = [] := by simp [choK]
theorem choK_succ {n m i j : Nat} (h : i ≤ j) : choK n m i (j + 1) = choK n m i j ++ (cho n m (j + 1)).map (j :: ·) := by
  rw [choK, show j + 1 - i = (j - i) + 1 by omega, List.range'_concat, List.flatMap_append, show i + 1 * (j - i) = j by omega]
  simp [choK]
theorem choK_full {n m i : Nat} : choK n m i n = cho n (m + 1) i := rfl
theorem cho_len {n : Nat} : ∀ {m i : Nat} {l : List Nat}, l ∈ cho n m i → l.length = m ∧ ∀ y ∈ l, i ≤ y ∧ y < n
  | 0, i, l, h => by simp [cho] at h; subst h; simp
  | m + 1, i, l, h => by
    simp only [cho, List.mem_flatMap, List.mem_map, List.mem_range'_1] at h
    obtain ⟨j, hj, r, hr, rfl⟩ := h
    obtain ⟨h1, h2⟩ := cho_len hr
    refine ⟨by simp [h1], fun y hy => ?_⟩
    rcases List.mem_cons.1 hy with rfl | hy
    · omega
    · have := h2 y hy; omega
theorem choK_many {n m i : Nat} (ih : ∀ j, i ≤ j → j < n → (cho n m (j + 1)).length ≤ 2 ^ (n - (j + 1))) : ∀ d, i + d ≤ n → (choK n m i (i + d)).length + 2 ^ (n - (i + d)) ≤ 2 ^ (n - i)
  | 0, _ => by simp [choK_self]
  | d + 1, h2 => by
    have h3 := choK_many ih d (by omega)
    rw [← Nat.add_assoc, choK_succ (by omega), List.length_append, List.length_map]
    have h4 := ih (i + d) (by omega) (by omega)
    rw [show n - (i + d) = (n - (i + d + 1)) + 1 by omega, Nat.pow_succ] at h3
    omega
theorem cho_many {n : Nat} : ∀ {m i : Nat}, i ≤ n → (cho n m i).length ≤ 2 ^ (n - i)
  | 0, i, h => by simp [cho]; exact Nat.one_le_two_pow
  | m + 1, i, h => by
    have := choK_many (n := n) (m := m) (i := i) (fun j _ h2 => cho_many (by omega)) (n - i) (by omega)
    rw [show i + (n - i) = n by omega, choK_full, Nat.sub_self, Nat.pow_zero] at this
    omega
set_option maxHeartbeats 4000000 in
theorem cho_zero (i n : Nat) : ACalls Try.prog 59 [I i, I n, I 0] [] (fun r o => r = .imm [.val (.slice none 0 0)] ∧ o = []) := by
 have F := Fx.nil
 refine ent Try.func59 Try.ntmps59 Try.results59 ?_
 refine rK [0, 1, 2] ?_
 refine W.seqk fun K1 hK1 => ?_
 refine rK [0, 1, 2, 12] ?_
 refine cT ?_
 refine rK [6] ?_
 refine W.ret ?_
 refine tr ?_
 clear hK1 K1
 exact er0 false [104] []
theorem RdD.oneNil {w : World} {q : Nat → Prop} {v : Value} (h : RdD w q (.imm [.val (.slice none 0 0)]) v) : RdD w q (.imm [.imm []]) v := by
  generalize hx : AV.imm [.val (.slice none 0 0)] = x at h
  cases h with
  | val v => cases hx
  | imm0 a cap => cases hx
  | agg l vs hs hr => cases hx
  | imm l b off cap sz vals hne hz hq hlen hcap hsz hc hr =>
    cases hx
    have h1 := hsz _ (List.mem_singleton.2 rfl)
    refine RdD.imm (w := w) (q := q) [.imm []] b off cap sz vals (by simp) hz hq hlen hcap (fun x hx => by obtain rfl := List.mem_singleton.1 hx; exact h1) (fun i x hx j y hy => ?_) (fun i x hx j y hy => ?_)
    · match i, j, hx, hy with
      | 0, 0, hx, hy => exact hc 0 _ rfl 0 _ rfl
      | 0, j + 1, hx, hy => simp at hx; subst hx; simp [AV.cells] at hy
      | i + 1, _, hx, _ => simp at hx
    · match i, j, hx, hy with
      | 0, 0, hx, hy =>
        simp at hx; subst hx; simp [AV.cells] at hy; subst hy
        have := hr 0 _ rfl 0 _ rfl
        generalize hz : AV.val (.slice none 0 0) = z at this
        generalize vals 0 0 = u at this ⊢
        cases this with
        | val v => cases hz; exact .imm0 none 0
        | imm0 a cap => cases hz
        | agg l vs hs hr => cases hz
        | imm => cases hz
      | 0, j + 1, hx, hy => simp at hx; subst hx; simp [AV.cells] at hy
      | i + 1, _, hx, _ => simp at hx
theorem Rd.oneNil {w : World} {e : Env} {v : Value} (h : Rd w e (.imm [.val (.slice none 0 0)]) v) : Rd w e (.imm [.imm []]) v := by
  generalize hx : AV.imm [.val (.slice none 0 0)] = x at h
  cases h with
  | data h => subst hx; exact .data h.oneNil
  | _ => cases hx
theorem ACalls.conv {P : Program} {f : FuncId} {args : List AV} {objs : List (Nat × Obj)} {R R' : AV → List (Nat × Obj) → Prop} (h : ACalls P f args objs R) (hr : ∀ r o, R r o → ∃ r', R' r' o ∧ ∀ w e v, Rd w e r v → Rd w e r' v) : ACalls P f args objs R' :=
  ⟨h.able, fun w e vals h1 h2 h3 => (h.run w e vals h1 h2 h3).mono fun en w' ⟨v, res, objs', e', a, b, c, d, g⟩ => let ⟨r', k1, k2⟩ := hr _ _ b; ⟨v, r', objs', e', a, k1, c, d, k2 _ _ _ g⟩⟩
set_option maxHeartbeats 4000000 in
theorem cho_step (i n m : Nat) (hn8 : n ≤ 8) (hin : i ≤ n) (hm8 : m ≤ 8) (ih : ∀ i : Nat, i ≤ n → ACalls Try.prog 59 [I i, I n, I m] [] (fun r o => r = tabsN (cho n m i) ∧ o = [])) : ACalls Try.prog 59 [I i, I n, I ((m : Int) + 1)] [] (fun r o => r = tabsN (cho n (m + 1) i) ∧ o = []) := by
 have F := Fx.nil
 replace F := F.add hn8 |>.add hin |>.add hm8
 refine ent Try.func59 Try.ntmps59 Try.results59 ?_
 have hm1 : ¬ ((m : Int) + 1 = 0) := by omega
 replace F := F.add hm1
 refine rK [0, 1, 2] ?_
 refine W.seqk fun K1 hK1 => ?_
 refine rK [0, 1, 2, 12] ?_
 refine cF ?_
 refine W.skip ?_
 refine hK1 _ ?_
 clear hK1 K1
 refine rK [0, 1, 2, 7] ?_
 refine W.seqk fun K2 hK2 => ?_
 refine rK [1, 2, 7, 8] ?_
 refine W.block ?_
 refine sn 7 9000 26 1 ?_
 refine lp (α := Nat) [1, 2] [25, 28, 34, 39, 40, 41] [9000] (fun j => [(8, I j), (7, .own 9000 0 (choK n m i j).length)]) (fun j => [(9000, .row true 26 1 ((choK n m i j).map rgV))]) (fun j => i ≤ j ∧ j ≤ n) (fun j => n - j) i ?_ ?_ v0 ?_
 ·
  try (simp [Fx.get F])
  all_goals (
   simp [choK_self]
  )
 ·
  try (simp [Fx.get F])
  all_goals (
   simp [choK_self]
  )
 ·
  intro j hI0
  simp only [List.cons_append, List.nil_append]
  try dsimp only at hI0
  obtain ⟨hij, hjn⟩ := hI0
  replace F := F.add hij |>.add hjn
  refine W.seqk fun K3 hK3 => ?_
  refine rK [1, 2, 7, 8, 17] ?_
  refine it (fun hc2 => ?_) (fun hc2 => ?_)
  ·
   try simp at hc2
   replace F := F.add hc2
   refine W.skip ?_
   refine hK3 _ ?_
   clear hK3 K3
   refine W.seqk fun K4 hK4 => ?_
   refine W.block ?_
   refine W.seqR ?_
   refine oNw 5 ?_
   refine oC [] ?_
   refine ct (ih (j + 1) (by omega)) ?_
   refine oN 1 ?_
   refine oK [1, 2, 7, 8, 9] ?_
   have qll := fun l (h : l ∈ cho n m (j + 1)) => (cho_len h).1
   have qmany := choK_many (n := n) (m := m) (i := i) (fun j _ h2 => cho_many (by omega)) (j - i) (by omega)
   rw [show i + (j - i) = j by omega] at qmany
   have qm2 := cho_many (n := n) (m := m) (i := j + 1) (by omega)
   have q256 : ∀ x : Nat, 2 ^ (n - x) ≤ 256 := fun x => Nat.pow_le_pow_right (n := 2) (by omega) (by omega : n - x ≤ 8)
   have q1 := q256 i
   have q2 := q256 (j + 1)
   have q3 : (choK n m i j).length ≤ 256 := Nat.le_trans (Nat.le_trans (Nat.le_add_right _ _) qmany) q1
   have q4 : (cho n m (j + 1)).length ≤ 256 := Nat.le_trans qm2 q2
   refine rK [1, 2, 7, 8, 9, 10] ?_
   refine W.block ?_
   refine lpa (α := Nat) [1, 2, 8, 9] [28, 34, 39, 40, 41] [9000] (fun k => [(10, I k), (7, .own 9000 0 ((choK n m i j).length + k))]) (fun k => [(9000, .row true 26 1 ((choK n m i j ++ ((cho n m (j + 1)).take k).map (j :: ·)).map rgV))]) (fun k => k ≤ (cho n m (j + 1)).length) (fun k => (cho n m (j + 1)).length - k) 0 v0 ?_
   ·
    intro k hI1
    simp only [List.cons_append, List.nil_append]
    try dsimp only at hI1
    replace F := F.add hI1
    refine W.seqk fun K5 hK5 => ?_
    refine rK [1, 2, 7, 8, 9, 10, 29] ?_
    refine it (fun hc3 => ?_) (fun hc3 => ?_)
    ·
     try simp at hc3
     replace F := F.add hc3
     refine W.skip ?_
     refine hK5 _ ?_
     clear hK5 K5
     refine W.seqk fun K6 hK6 => ?_
     refine W.block ?_
     have hkk : k < (cho n m (j + 1)).length := by omega
     have hl1 : (cho n m (j + 1))[k].length = m := qll _ (List.getElem_mem hkk)
     have htk : List.take m (cho n m (j + 1))[k] = (cho n m (j + 1))[k] := List.take_of_length_le (by omega)
     replace F := F.add hkk |>.add hl1 |>.add htk
     refine W.region ?_
     refine oNw 8 ?_
     refine fz 272 ?_
     refine oNw 3 ?_
     refine WOps.endK ?_
     refine hK6 _ ?_
     clear hK6 K6
     refine rEw ?_
     refine ⟨k + 1, lf ?_ ?_, v0, v0⟩
     ·
      exact v1
     ·
      try (simp [Fx.get F])
      all_goals (
       rw [List.take_succ_eq_append_getElem hkk, List.map_append]; rfl
      )
    ·
     try simp at hc3
     replace F := F.add hc3
     refine W.exit ?_
     refine hK4 _ ?_
     clear hK5 K5 hK4 K4
     refine rEw ?_
     refine ⟨j + 1, lf ?_ ?_, v0, v0⟩
     ·
      try (simp [Fx.get F])
      all_goals (
       rw [choK_succ hij, List.length_append, List.length_map]; omega
      )
     ·
      try (simp [Fx.get F])
      all_goals (
       rw [choK_succ hij, List.take_of_length_le hc3]; simp
      )
  ·
   try simp at hc2
   replace F := F.add hc2
   refine W.exit ?_
   refine hK2 _ ?_
   clear hK3 K3 hK2 K2
   refine rK [6] ?_
   refine W.ret ?_
   refine er true [9000] [] ?_
   obtain rfl : j = n := by omega
   exact ⟨rfl, rfl⟩
theorem cho_ok {n : Nat} (hn8 : n ≤ 8) : ∀ (m i : Nat), m ≤ 8 → i ≤ n → ACalls Try.prog 59 [I i, I n, I m] [] (fun r o => r = tabsN (cho n m i) ∧ o = [])
  | 0, i, _, _ => (cho_zero i n).conv (fun r o h => ⟨tabsN [[]], ⟨rfl, h.2⟩, fun w e v hr => by rw [h.1] at hr; exact hr.oneNil⟩)
  | m + 1, i, hm, hi => by
    have := cho_step i n m hn8 hi (by omega) fun i h => cho_ok hn8 m i (by omega) h
    simpa using this
end Go.Sim
