/- All held turns of a trade. -/
import Derived.Test.YtggbbldoopfejaaVl
import Derived.Test.YtggbbldoopfejaaMc
namespace Go.Sim
open Go.Proofs Go.Plain
set_option maxRecDepth 100000
set_option linter.unusedSimpArgs false
set_option linter.unusedVariables false
attribute [-simp] List.map_set List.map_take List.map_drop
attribute [local simp] take_map' drop_map'
abbrev tvs (l : List (List Turn)) : AV := .imm (l.map turns)
/-- all held turns that begin with some -/
def allT (ow : List Turn) : Nat → List Turn → List (List Turn)
  | 0, l => [l]
  | f + 1, l => ow.flatMap fun x => if x ∈ l then [] else allT ow f (l ++ [x])
def allK (ow : List Turn) (f : Nat) (l : List Turn) (i : Nat) : List (List Turn) := (ow.take i).flatMap fun x => if x ∈ l then [] else allT ow f (l ++ [x])
theorem allK_zero (ow : List Turn) (f : Nat) (l : List Turn) : allK ow f l 0 = [] := rfl
attribute [local simp] allK_zero
theorem allK_full (ow : List Turn) (f : Nat) (l : List Turn) : allK ow f l ow.length = allT ow (f + 1) l := by rw [allK, List.take_length, allT]
theorem allK_succ {ow : List Turn} {f : Nat} {l : List Turn} {i : Nat} (hi : i < ow.length) : allK ow f l (i + 1) = allK ow f l i ++ (if ow[i] ∈ l then [] else allT ow f (l ++ [ow[i]])) := by
  rw [allK, List.take_succ_eq_append_getElem hi, List.flatMap_append]; simp [allK]
theorem allT_many {ow : List Turn} (h4 : ow.length ≤ 4) : ∀ (f : Nat) (l : List Turn), (allT ow f l).length ≤ 4 ^ f
  | 0, _ => by simp [allT]
  | f + 1, l => by
    have : ∀ L : List Turn, (L.flatMap fun x => if x ∈ l then [] else allT ow f (l ++ [x])).length ≤ L.length * 4 ^ f := by
      intro L
      induction L with
      | nil => simp
      | cons x r ih =>
        rw [List.flatMap_cons, List.length_append, List.length_cons, Nat.succ_mul]
        have : (if x ∈ l then [] else allT ow f (l ++ [x])).length ≤ 4 ^ f := by
          split
          · simp
          · exact allT_many h4 f _
        omega
    rw [allT]
    refine Nat.le_trans (this ow) ?_
    rw [Nat.pow_succ, Nat.mul_comm]
    exact Nat.mul_le_mul_left _ h4
theorem allK_many {ow : List Turn} (h4 : ow.length ≤ 4) {f : Nat} (hf : f ≤ 3) (l : List Turn) (i : Nat) : (allK ow f l i).length ≤ 256 ∧ (allT ow f l).length ≤ 256 := by
  have h2 : 4 ^ f ≤ 64 := Nat.pow_le_pow_right (n := 4) (by omega) hf
  have h3 : (4 : Nat) ^ (f + 1) ≤ 256 := Nat.pow_le_pow_right (n := 4) (by omega) (by omega : f + 1 ≤ 4)
  refine ⟨?_, Nat.le_trans (allT_many h4 f l) (by omega)⟩
  refine Nat.le_trans ?_ (Nat.le_trans (allT_many h4 (f + 1) l) h3)
  have e : ∀ g : Turn → List (List Turn), ((ow.take i).flatMap g).length ≤ (ow.flatMap g).length := fun g => by
    have e2 : ow.flatMap g = (ow.take i).flatMap g ++ (ow.drop i).flatMap g := by rw [← List.flatMap_append, List.take_append_drop]
    rw [e2, List.length_append]; omega
  exact e _
set_option maxHeartbeats 4000000 in
theorem all_zero (ow : List Turn) (lk : List (List Turn)) (l : List Turn) (hl : l.length = ow.length) : ACalls Try.prog 36 [trade ow lk, turns l] [] (fun r o => r = tvs [l] ∧ o = []) := by
 have F := Fx.nil
 refine ent Try.func36 Try.ntmps36 Try.results36 ?_
 have hl2 : (l.length : Int) = ow.length := by omega
 replace F := F.add hl2
 refine rK [1, 2] ?_
 refine W.seqk fun K1 hK1 => ?_
 refine rK [1, 2, 12] ?_
 refine cT ?_
 refine rK [4] ?_
 refine W.ret ?_
 refine tr ?_
 clear hK1 K1
 exact er0 false [112] []
theorem turns_snoc (l : List Turn) (x : Turn) : turns (l ++ [x]) = .imm (l.map T ++ [T x]) := by simp
set_option maxHeartbeats 4000000 in
theorem all_step (ow : List Turn) (lk : List (List Turn)) (ho : ow.length ≤ 4) (f : Nat) (l : List Turn) (hl : l.length + (f + 1) = ow.length) (ih : ∀ x : Turn, ACalls Try.prog 36 [trade ow lk, turns (l ++ [x])] [] (fun r o => r = tvs (allT ow f (l ++ [x])) ∧ o = [])) : ACalls Try.prog 36 [trade ow lk, turns l] [] (fun r o => r = tvs (allT ow (f + 1) l) ∧ o = []) := by
 have F := Fx.nil
 refine ent Try.func36 Try.ntmps36 Try.results36 ?_
 have hne : ¬ (l.length : Int) = ow.length := by omega
 replace F := F.add hne
 refine rK [1, 2] ?_
 refine W.seqk fun K1 hK1 => ?_
 refine rK [1, 2, 12] ?_
 refine cF ?_
 refine W.skip ?_
 refine hK1 _ ?_
 clear hK1 K1
 refine rK [1, 2, 5] ?_
 refine W.seqk fun K2 hK2 => ?_
 refine rK [1, 2, 5, 6] ?_
 refine W.block ?_
 refine sn 5 9000 22 1 ?_
 refine lpa (α := Nat) [1, 2] [18, 28, 33, 39, 40, 41, 42] [9000] (fun i => [(6, I i), (5, .own 9000 0 (allK ow f l i).length)]) (fun i => [(9000, .row true 22 1 ((allK ow f l i).map turns))]) (fun i => i ≤ ow.length) (fun i => ow.length - i) 0 v0 ?_
 ·
  intro i hI0
  simp only [List.cons_append, List.nil_append]
  try dsimp only at hI0
  replace F := F.add hI0
  refine W.seqk fun K3 hK3 => ?_
  refine rK [1, 2, 5, 6, 19] ?_
  refine it (fun hc2 => ?_) (fun hc2 => ?_)
  ·
   try simp at hc2
   replace F := F.add hc2
   refine W.skip ?_
   refine hK3 _ ?_
   clear hK3 K3
   refine W.seqk fun K4 hK4 => ?_
   refine W.block ?_
   by_cases hin : (ow[i].1, ow[i].2) ∈ l
   ·
    replace F := F.add hin
    have hio : i < ow.length := by omega
    have hk1 : (allK ow f l i).length ≤ 256 := (allK_many ho (by omega) l i).1
    have hk2 : (allT ow f (l ++ [(ow[i].1, ow[i].2)])).length ≤ 256 := (allK_many ho (by omega) (l ++ [(ow[i].1, ow[i].2)]) i).2
    replace F := F.add hio |>.add hk1 |>.add hk2
    refine W.seqR ?_
    refine oN 6 ?_
    refine oC [] ?_
    refine ct (at_ok _ _ _) ?_
    refine oN 1 ?_
    refine oK [1, 2, 5, 6, 29] ?_
    refine cF ?_
    refine W.skip ?_
    refine hK4 _ ?_
    clear hK4 K4
    refine rEw ?_
    refine ⟨i + 1, lf ?_ ?_, v0, v0⟩
    ·
     try (simp [Fx.get F])
     all_goals (
      rw [allK_succ hio, if_pos hin, List.append_nil]
     )
    ·
     try (simp [Fx.get F])
     all_goals (
      rw [allK_succ hio, if_pos hin, List.append_nil]
     )
   ·
    replace F := F.add hin
    have hio : i < ow.length := by omega
    have hk1 : (allK ow f l i).length ≤ 256 := (allK_many ho (by omega) l i).1
    have hk2 : (allT ow f (l ++ [(ow[i].1, ow[i].2)])).length ≤ 256 := (allK_many ho (by omega) (l ++ [(ow[i].1, ow[i].2)]) i).2
    replace F := F.add hio |>.add hk1 |>.add hk2
    refine W.seqR ?_
    refine oN 6 ?_
    refine oC [] ?_
    refine ct (at_ok _ _ _) ?_
    refine oN 1 ?_
    refine oK [1, 2, 5, 6, 29] ?_
    refine cT ?_
    have ih1 := ih (ow[i].1, ow[i].2)
    rw [turns_snoc] at ih1
    refine wDe 12 [(10, [264])] [[], [], [], [2], [], [4], [], [6, 4, 5], [5, 4, 6, 7], [7, 6, 4, 5, 8], [8, 5, 4, 6, 7, 9, 2, 3], [3, 2, 9, 7, 6, 4, 5, 8, 10, 1], [1, 10, 8, 5, 4, 6, 7, 9, 2, 3, 11, 0], [0, 11, 3, 2, 9, 7, 6, 4, 5, 8, 10, 1, 12]] ?_
    refine dN 3 9 ?_
    refine dC [] ?_
    refine cd (CopyTurns_ok _ (by omega)) ?_
    refine dN 6 2 ?_
    refine WDraw.appI hΓ [264] (by simp [hne, hI0, hc2, hin, hio, hk1, hk2]; rfl) (by first | rfl | simp) (by simp [hne, hI0, hc2, hin, hio, hk1, hk2]; (try (simp (disch := omega) only [wrap_i64, mul_i64, capOk_of]; (try simp [hne, hI0, hc2, hin, hio, hk1, hk2]))); first | rfl | exact ⟨rfl, rfl⟩) (by simp [hne, hI0, hc2, hin, hio, hk1, hk2, imD]; first | rfl | exact ⟨rfl, rfl⟩) (by first | rfl | simp) (by simp [hne, hI0, hc2, hin, hio, hk1, hk2]; first | done | rfl) (.inr (by simp)) (by simp [hne, hI0, hc2, hin, hio, hk1, hk2]; rfl) ?_
    refine dC [] ?_
    refine cd (ih1) ?_
    refine dD ?_
    refine oNw 2 ?_
    refine WOps.endK ?_
    refine hK4 _ ?_
    clear hK4 K4
    refine rEw ?_
    refine ⟨i + 1, lf ?_ ?_, v0, v0⟩
    ·
     try (simp [Fx.get F])
     all_goals (
      rw [allK_succ hio, if_neg hin, List.length_append]
     )
    ·
     try (simp [Fx.get F])
     all_goals (
      rw [allK_succ hio, if_neg hin, List.map_append]
     )
  ·
   try simp at hc2
   replace F := F.add hc2
   refine W.exit ?_
   refine hK2 _ ?_
   clear hK3 K3 hK2 K2
   refine rK [4] ?_
   refine W.ret ?_
   refine er true [9000] [] ?_
   have : i = ow.length := by omega
   subst this
   exact ⟨by rw [allK_full], rfl⟩
theorem all_ok (ow : List Turn) (lk : List (List Turn)) (ho : ow.length ≤ 4) : ∀ (f : Nat) (l : List Turn), l.length + f = ow.length → ACalls Try.prog 36 [trade ow lk, turns l] [] (fun r o => r = tvs (allT ow f l) ∧ o = [])
  | 0, l, h => all_zero ow lk l (by omega)
  | f + 1, l, h => all_step ow lk ho f l h fun x => all_ok ow lk ho f (l ++ [x]) (by simp; omega)
/-- they are all of the owned turns' orders -/
theorem allT_mem {ow : List Turn} : ∀ (f : Nat) (l h : List Turn), l.length + f = ow.length → (h ∈ allT ow f l ↔ ∃ s, h = l ++ s ∧ s.length = f ∧ (∀ x ∈ s, x ∈ ow) ∧ (∀ x ∈ s, x ∉ l) ∧ s.Nodup)
  | 0, l, h, _ => by
    rw [allT, List.mem_singleton]
    constructor
    · rintro rfl; exact ⟨[], by simp⟩
    · rintro ⟨s, h1, h2, _⟩
      rw [List.eq_nil_of_length_eq_zero h2] at h1; simpa using h1
  | f + 1, l, h, hl => by
    rw [allT, List.mem_flatMap]
    constructor
    · rintro ⟨x, hx, hm⟩
      by_cases hxl : x ∈ l
      · rw [if_pos hxl] at hm; cases hm
      · rw [if_neg hxl] at hm
        obtain ⟨s, rfl, h2, h3, h4, h5⟩ := (allT_mem f (l ++ [x]) h (by simp; omega)).1 hm
        refine ⟨x :: s, by simp, by simp [h2], fun y hy => ?_, fun y hy => ?_, List.nodup_cons.2 ⟨fun hxs => h4 x hxs (by simp), h5⟩⟩
        · rcases List.mem_cons.1 hy with rfl | hy
          · exact hx
          · exact h3 y hy
        · rcases List.mem_cons.1 hy with rfl | hy
          · exact hxl
          · exact fun hyl => h4 y hy (List.mem_append_left _ hyl)
    · rintro ⟨s, rfl, h2, h3, h4, h5⟩
      cases s with
      | nil => simp at h2
      | cons x s =>
        rw [List.nodup_cons] at h5
        refine ⟨x, h3 x (by simp), ?_⟩
        rw [if_neg (h4 x (by simp))]
        refine (allT_mem f (l ++ [x]) _ (by simp; omega)).2 ⟨s, by simp, by simpa using h2, fun y hy => h3 y (List.mem_cons_of_mem _ hy), fun y hy hm => ?_, h5.2⟩
        rcases List.mem_append.1 hm with hm | hm
        · exact h4 y (List.mem_cons_of_mem _ hy) hm
        · rw [List.mem_singleton] at hm; subst hm; exact h5.1 hy
theorem allT_nil {ow h : List Turn} : h ∈ allT ow ow.length [] ↔ h.length = ow.length ∧ (∀ x ∈ h, x ∈ ow) ∧ h.Nodup := by
  rw [allT_mem ow.length [] h (by simp)]
  constructor
  · rintro ⟨s, rfl, h2, h3, _, h5⟩; exact ⟨by simpa using h2, by simpa using h3, by simpa using h5⟩
  · rintro ⟨h1, h2, h3⟩; exact ⟨h, by simp, h1, h2, by simp, h3⟩
end Go.Sim
