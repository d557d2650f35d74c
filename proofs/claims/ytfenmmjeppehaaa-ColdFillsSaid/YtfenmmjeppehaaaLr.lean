/- The fewest scoops, by the reference. -/
import Derived.Test.YtfenmmjeppehaaaLq
namespace Go.Sim
open Go.Proofs
set_option maxRecDepth 100000
set_option linter.unusedSimpArgs false
set_option linter.unusedVariables false
attribute [-simp] List.map_set List.map_take List.map_drop
abbrev okR (c : Cel) (b : Nat) (g : Int) (vs : List Int) (u : Nat) : List Int → Bool := fun sc => coldTo (scooped c b g vs sc) b u
def GoodB (n : Nat) (best : Option (List Int)) : Prop := ∀ x, best = some x → x.length = n ∧ ∀ y ∈ x, 0 ≤ y ∧ y ≤ 5
theorem foldN_good {α : Type} {f : Int → α → α} {P : α → Prop} : ∀ (n : Nat) (b : α), P b → (∀ (k : Nat) a, k < n → P a → P (f k a)) → P (foldN f 0 n b)
  | 0, b, h, _ => h
  | n + 1, b, h, hs => by
    rw [foldN_snoc, show (0 : Int) + (n : Int) = (n : Int) by omega]
    exact hs n _ (by omega) (foldN_good n b h fun k a hk => hs k a (by omega))
theorem good_snoc {l : List Int} {n : Int} (h : ∀ y ∈ l, 0 ≤ y ∧ y ≤ 5) (hn : 0 ≤ n ∧ n ≤ 5) : ∀ y ∈ l ++ [n], 0 ≤ y ∧ y ≤ 5 := fun y hy => by
  rcases List.mem_append.1 hy with h1 | h1
  · exact h y h1
  · obtain rfl := List.mem_singleton.1 h1; exact hn
theorem fillR_good {ok : List Int → Bool} {n : Nat} : ∀ (r : Nat) (begun : List Int) (best : Option (List Int)), begun.length + r = n → (∀ y ∈ begun, 0 ≤ y ∧ y ≤ 5) → GoodB n best → GoodB n (fillR ok r begun best)
  | 0, begun, best, hl, hs, hg => by
    rw [fillR]
    split
    · exact hg
    split
    · intro x hx; cases hx; exact ⟨by omega, hs⟩
    · exact hg
  | r + 1, begun, best, hl, hs, hg => by
    rw [fillR]
    split
    · exact hg
    · exact foldN_good 6 best hg fun k a hk ha => fillR_good r (begun ++ [(k : Int)]) a (by rw [List.length_append, List.length_cons, List.length_nil]; omega) (good_snoc hs ⟨by omega, by omega⟩) ha
theorem scoopI {c : Cel} (hv : ValidC c) {b : Nat} {g : Int} {vs sc : List Int} (hg : 0 ≤ g ∧ g ≤ 100000) (hs : ∀ n ∈ sc, 0 ≤ n ∧ n ≤ 5) (hl : sc.length ≤ 6) : IceC (scooped c b g vs sc) := by
  refine ⟨hv.bx, fun f hf => ?_, ?_⟩
  · rcases mergeF_mem f hf with h | h
    · exact (hv.fl f h).grams
    · rw [h.2.1]; exact hg
  · have h1 := mergeF_len (b := b) (grams := g) (vs := vs) (fl := c.fils) fun n hn => (hs n hn).2
    have h2 := hv.f20
    show (mergeF b g vs sc c.fils).length ≤ 1000000
    omega
theorem best_some {n : Nat} {best : Option (List Int)} (hn : 0 < n) (h : GoodB n best) (h0 : ¬ best = none) : ∃ x xs, best = some (x :: xs) ∧ (x :: xs).length = n ∧ ∀ y ∈ x :: xs, 0 ≤ y ∧ y ≤ 5 := by
  cases hq : best with
  | none => exact absurd hq h0
  | some l =>
    obtain ⟨h1, h2⟩ := h l hq
    cases l with
    | nil => simp only [List.length_nil] at h1; omega
    | cons x xs => exact ⟨x, xs, rfl, h1, h2⟩
theorem ACalls.nilA {P : Program} {f : FuncId} {args args' : List AV} {objs : List (Nat × Obj)} {R : AV → List (Nat × Obj) → Prop} (h : ACalls P f args objs R) (hl : args'.length = args.length) (ha : ∀ (i : Nat) (x y : AV), args'[i]? = some x → args[i]? = some y → x = y ∨ (x = .val (.slice none 0 0) ∧ y = .imm [])) : ACalls P f args' objs R := by
  refine ⟨h.able, fun w e vals h1 h2 h3 => h.run w e vals h1 (h2.trans hl) fun i y v hy hv => ?_⟩
  have hlt : i < args'.length := by rw [hl]; exact (List.getElem?_eq_some_iff.1 hy).1
  have hr := h3 i _ v (List.getElem?_eq_getElem hlt) hv
  rcases ha i _ y (List.getElem?_eq_getElem hlt) hy with e1 | ⟨e1, e2⟩
  · rwa [e1] at hr
  · rw [e1] at hr
    obtain rfl := hr.val_inv
    rw [e2]
    exact .data (.imm0 none 0)
theorem ACalls.nil4 {P : Program} {f : FuncId} {a b c d e g : AV} {R : AV → List (Nat × Obj) → Prop} (h : ACalls P f [a, b, c, .imm [], d, e, g] [] R) : ACalls P f [a, b, c, .val (.slice none 0 0), d, e, g] [] R :=
  h.nilA rfl fun i x y hx hy => by
    match i, hx, hy with
    | 0, hx, hy => simp at hx hy; exact .inl (hx.symm.trans hy)
    | 1, hx, hy => simp at hx hy; exact .inl (hx.symm.trans hy)
    | 2, hx, hy => simp at hx hy; exact .inl (hx.symm.trans hy)
    | 3, hx, hy => simp at hx hy; exact .inr ⟨hx.symm, hy.symm⟩
    | 4, hx, hy => simp at hx hy; exact .inl (hx.symm.trans hy)
    | 5, hx, hy => simp at hx hy; exact .inl (hx.symm.trans hy)
    | 6, hx, hy => simp at hx hy; exact .inl (hx.symm.trans hy)
    | n + 7, hx, hy => simp at hx
set_option maxHeartbeats 4000000 in
theorem rfill_zero (c : Cel) (hv : ValidC c) (b : Nat) (hb : b < c.boxes.length) (vs : List Int) (h6 : vs.length ≤ 6) (h0 : 0 < vs.length) (g : Int) (hgr : 0 ≤ g ∧ g ≤ 100000) (u : Nat) (hu : u ≤ 240) (begun : List Int) (hp : begun.length = vs.length) (hs : ∀ y ∈ begun, 0 ≤ y ∧ y ≤ 5) (best : Option (List Int)) (hgb : GoodB vs.length best) : ACalls Try.prog 74 [celV c, I b, ints vs, ints begun, I g, I u, optV best] [] (fun r o => r = optV (fillR (okR c b g vs u) 0 begun best) ∧ o = []) := by
 have F := Fx.nil
 replace F := F.add hb |>.add h6 |>.add hu
 refine ent Try.func74 Try.ntmps74 Try.results74 ?_
 have hov0 : optV none = .val (.slice none 0 0) := rfl
 have hp2 : (begun.length : Int) = vs.length := by omega
 replace F := F.add hov0 |>.add hp2
 refine rK [1, 2, 3, 4, 5, 6, 7] ?_
 refine W.seqk fun K1 hK1 => ?_
 by_cases hbn : best = none
 ·
  replace F := F.add hbn
  have hov : optV best = .val (.slice none 0 0) := by rw [hbn]; rfl
  have qdone : doneB begun best = false := by rw [hbn]; rfl
  replace F := F.add hov
  refine W.seqR ?_
  refine oN 3 ?_
  refine gF ?_
  refine gF ?_
  refine gF ?_
  refine gF ?_
  refine gF ?_
  refine oN 1 ?_
  refine oK [1, 2, 3, 4, 5, 6, 7, 24] ?_
  refine cF ?_
  refine W.skip ?_
  refine hK1 _ ?_
  clear hK1 K1
  refine W.seqk fun K2 hK2 => ?_
  refine rK [1, 2, 3, 4, 5, 6, 7, 30] ?_
  refine cT ?_
  refine W.seqk fun K3 hK3 => ?_
  obtain ⟨p, qp⟩ : ∃ p, coldTo (scooped c b g vs begun) b u = p := ⟨_, rfl⟩
  have hpp := qp
  replace F := F.add hpp
  refine W.seqR ?_
  refine oN 5 ?_
  refine oC [] ?_
  refine ct (rScooped_ok c hv b vs begun h6 (by omega) hs g) ?_
  refine oN 2 ?_
  refine oC [] ?_
  refine ct (rLasts_ok (scooped c b g vs begun) (scoopI hv hgr hs (by omega)) b hb u hu) ?_
  refine oK [3, 6, 39] ?_
  refine it (fun hc3 => ?_) (fun hc3 => ?_)
  ·
   try simp at hc3
   replace F := F.add hc3
   refine rK [14] ?_
   refine W.ret ?_
   refine tr (tr ?_)
   clear hK3 K3 hK2 K2
   refine er false [] [] ?_
   (try simp only [decide_eq_true_eq, decide_eq_false_iff_not] at *)
   first
   | exact ⟨by rw [fillR, if_pos (by rw [qdone]; exact decide_eq_true (by omega)), hov], by trivial⟩
   | exact ⟨by rw [fillR, if_neg (by rw [qdone]; decide), if_pos (by show coldTo _ _ _ = true; rw [qp]; assumption)]; rfl, by trivial⟩
   | exact ⟨by rw [fillR, if_neg (by rw [qdone]; decide), if_neg (by show ¬ coldTo _ _ _ = true; rw [qp, show p = false from by assumption]; decide), hov], by trivial⟩
   | exact ⟨by rw [fillR, if_neg (by rw [qdone]; simpa using by omega), if_pos (by show coldTo _ _ _ = true; rw [qp]; assumption)]; rfl, by trivial⟩
   | exact ⟨by rw [fillR, if_neg (by rw [qdone]; simpa using by omega), if_neg (by show ¬ coldTo _ _ _ = true; rw [qp, show p = false from by assumption]; decide), hov], by trivial⟩
  ·
   try simp at hc3
   replace F := F.add hc3
   refine W.skip ?_
   refine hK3 _ ?_
   clear hK3 K3
   refine rK [14] ?_
   refine W.ret ?_
   refine tr ?_
   clear hK2 K2
   refine er false [] [] ?_
   (try simp only [decide_eq_true_eq, decide_eq_false_iff_not] at *)
   first
   | exact ⟨by rw [fillR, if_pos (by rw [qdone]; exact decide_eq_true (by omega)), hov], by trivial⟩
   | exact ⟨by rw [fillR, if_neg (by rw [qdone]; decide), if_pos (by show coldTo _ _ _ = true; rw [qp]; assumption)]; rfl, by trivial⟩
   | exact ⟨by rw [fillR, if_neg (by rw [qdone]; decide), if_neg (by show ¬ coldTo _ _ _ = true; rw [qp, show p = false from by assumption]; decide), hov], by trivial⟩
   | exact ⟨by rw [fillR, if_neg (by rw [qdone]; simpa using by omega), if_pos (by show coldTo _ _ _ = true; rw [qp]; assumption)]; rfl, by trivial⟩
   | exact ⟨by rw [fillR, if_neg (by rw [qdone]; simpa using by omega), if_neg (by show ¬ coldTo _ _ _ = true; rw [qp, show p = false from by assumption]; decide), hov], by trivial⟩
 ·
  replace F := F.add hbn
  obtain ⟨x, xs, qx, qxl, qxs⟩ := best_some h0 hgb hbn
  have hov : optV best = .imm (I x :: xs.map I) := by rw [qx]; rfl
  have qdone : doneB begun best = decide (sumI (x :: xs) ≤ sumI begun) := by rw [qx]; rfl
  replace F := F.add hov
  refine W.seqR ?_
  refine oN 3 ?_
  refine gT ?_
  refine gC [] ?_
  refine ct (rsum_ok begun (by omega) hs) ?_
  refine gT ?_
  refine gC [] ?_
  refine ct (rsum_ok (x :: xs) (by omega) qxs) ?_
  refine gT ?_
  refine oN 1 ?_
  refine oK [1, 2, 3, 4, 5, 6, 7, 24] ?_
  refine it (fun hc4 => ?_) (fun hc4 => ?_)
  ·
   try simp at hc4
   replace F := F.add hc4
   refine rK [14] ?_
   refine W.ret ?_
   refine tr ?_
   clear hK1 K1
   refine er false [] [] ?_
   (try simp only [decide_eq_true_eq, decide_eq_false_iff_not] at *)
   first
   | exact ⟨by rw [fillR, if_pos (by rw [qdone]; exact decide_eq_true (by omega)), hov], by trivial⟩
   | exact ⟨by rw [fillR, if_neg (by rw [qdone]; decide), if_pos (by show coldTo _ _ _ = true; rw [qp]; assumption)]; rfl, by trivial⟩
   | exact ⟨by rw [fillR, if_neg (by rw [qdone]; decide), if_neg (by show ¬ coldTo _ _ _ = true; rw [qp, show p = false from by assumption]; decide), hov], by trivial⟩
   | exact ⟨by rw [fillR, if_neg (by rw [qdone]; simpa using by omega), if_pos (by show coldTo _ _ _ = true; rw [qp]; assumption)]; rfl, by trivial⟩
   | exact ⟨by rw [fillR, if_neg (by rw [qdone]; simpa using by omega), if_neg (by show ¬ coldTo _ _ _ = true; rw [qp, show p = false from by assumption]; decide), hov], by trivial⟩
  ·
   try simp at hc4
   replace F := F.add hc4
   refine W.skip ?_
   refine hK1 _ ?_
   clear hK1 K1
   refine W.seqk fun K4 hK4 => ?_
   refine rK [1, 2, 3, 4, 5, 6, 7, 30] ?_
   refine cT ?_
   refine W.seqk fun K5 hK5 => ?_
   obtain ⟨p, qp⟩ : ∃ p, coldTo (scooped c b g vs begun) b u = p := ⟨_, rfl⟩
   have hpp := qp
   replace F := F.add hpp
   refine W.seqR ?_
   refine oN 5 ?_
   refine oC [] ?_
   refine ct (rScooped_ok c hv b vs begun h6 (by omega) hs g) ?_
   refine oN 2 ?_
   refine oC [] ?_
   refine ct (rLasts_ok (scooped c b g vs begun) (scoopI hv hgr hs (by omega)) b hb u hu) ?_
   refine oK [3, 6, 39] ?_
   refine it (fun hc6 => ?_) (fun hc6 => ?_)
   ·
    try simp at hc6
    replace F := F.add hc6
    refine rK [14] ?_
    refine W.ret ?_
    refine tr (tr ?_)
    clear hK5 K5 hK4 K4
    refine er false [] [] ?_
    (try simp only [decide_eq_true_eq, decide_eq_false_iff_not] at *)
    first
    | exact ⟨by rw [fillR, if_pos (by rw [qdone]; exact decide_eq_true (by omega)), hov], by trivial⟩
    | exact ⟨by rw [fillR, if_neg (by rw [qdone]; decide), if_pos (by show coldTo _ _ _ = true; rw [qp]; assumption)]; rfl, by trivial⟩
    | exact ⟨by rw [fillR, if_neg (by rw [qdone]; decide), if_neg (by show ¬ coldTo _ _ _ = true; rw [qp, show p = false from by assumption]; decide), hov], by trivial⟩
    | exact ⟨by rw [fillR, if_neg (by rw [qdone]; simpa using by omega), if_pos (by show coldTo _ _ _ = true; rw [qp]; assumption)]; rfl, by trivial⟩
    | exact ⟨by rw [fillR, if_neg (by rw [qdone]; simpa using by omega), if_neg (by show ¬ coldTo _ _ _ = true; rw [qp, show p = false from by assumption]; decide), hov], by trivial⟩
   ·
    try simp at hc6
    replace F := F.add hc6
    refine W.skip ?_
    refine hK5 _ ?_
    clear hK5 K5
    refine rK [14] ?_
    refine W.ret ?_
    refine tr ?_
    clear hK4 K4
    refine er false [] [] ?_
    (try simp only [decide_eq_true_eq, decide_eq_false_iff_not] at *)
    first
    | exact ⟨by rw [fillR, if_pos (by rw [qdone]; exact decide_eq_true (by omega)), hov], by trivial⟩
    | exact ⟨by rw [fillR, if_neg (by rw [qdone]; decide), if_pos (by show coldTo _ _ _ = true; rw [qp]; assumption)]; rfl, by trivial⟩
    | exact ⟨by rw [fillR, if_neg (by rw [qdone]; decide), if_neg (by show ¬ coldTo _ _ _ = true; rw [qp, show p = false from by assumption]; decide), hov], by trivial⟩
    | exact ⟨by rw [fillR, if_neg (by rw [qdone]; simpa using by omega), if_pos (by show coldTo _ _ _ = true; rw [qp]; assumption)]; rfl, by trivial⟩
    | exact ⟨by rw [fillR, if_neg (by rw [qdone]; simpa using by omega), if_neg (by show ¬ coldTo _ _ _ = true; rw [qp, show p = false from by assumption]; decide), hov], by trivial⟩
set_option maxHeartbeats 4000000 in
theorem rfill_step (c : Cel) (hv : ValidC c) (b : Nat) (hb : b < c.boxes.length) (vs : List Int) (h6 : vs.length ≤ 6) (h0 : 0 < vs.length) (g : Int) (hgr : 0 ≤ g ∧ g ≤ 100000) (u : Nat) (hu : u ≤ 240) (r : Nat) (begun : List Int) (hp : begun.length + (r + 1) = vs.length) (hs : ∀ y ∈ begun, 0 ≤ y ∧ y ≤ 5) (best : Option (List Int)) (hgb : GoodB vs.length best) (ih : ∀ n : Int, 0 ≤ n → n ≤ 5 → ∀ bst : Option (List Int), GoodB vs.length bst → ACalls Try.prog 74 [celV c, I b, ints vs, ints (begun ++ [n]), I g, I u, optV bst] [] (fun r' o => r' = optV (fillR (okR c b g vs u) r (begun ++ [n]) bst) ∧ o = [])) : ACalls Try.prog 74 [celV c, I b, ints vs, ints begun, I g, I u, optV best] [] (fun r' o => r' = optV (fillR (okR c b g vs u) (r + 1) begun best) ∧ o = []) := by
 have F := Fx.nil
 replace F := F.add hb |>.add h6 |>.add hu
 refine ent Try.func74 Try.ntmps74 Try.results74 ?_
 have hov0 : optV none = .val (.slice none 0 0) := rfl
 have hp2 : ¬ (begun.length : Int) = vs.length := by omega
 have hp3 : begun.length ≤ 6 := by omega
 replace F := F.add hov0 |>.add hp2 |>.add hp3
 refine rK [1, 2, 3, 4, 5, 6, 7] ?_
 refine W.seqk fun K1 hK1 => ?_
 by_cases hbn : best = none
 ·
  replace F := F.add hbn
  have hov : optV best = .val (.slice none 0 0) := by rw [hbn]; rfl
  have qdone : doneB begun best = false := by rw [hbn]; rfl
  replace F := F.add hov
  refine W.seqR ?_
  refine oN 3 ?_
  refine gF ?_
  refine gF ?_
  refine gF ?_
  refine gF ?_
  refine gF ?_
  refine oN 1 ?_
  refine oK [1, 2, 3, 4, 5, 6, 7, 24] ?_
  refine cF ?_
  refine W.skip ?_
  refine hK1 _ ?_
  clear hK1 K1
  refine W.seqk fun K2 hK2 => ?_
  refine rK [1, 2, 3, 4, 5, 6, 7, 30] ?_
  refine cF ?_
  refine W.skip ?_
  refine hK2 _ ?_
  clear hK2 K2
  refine W.seqk fun K3 hK3 => ?_
  refine rK [1, 2, 3, 4, 5, 6, 7, 15] ?_
  refine W.block ?_
  refine lpa (α := Nat × Option (List Int)) [1, 2, 3, 4, 5, 7] [49, 51, 53, 54, 58] [] (fun y => [(15, I y.1), (6, optV y.2)]) (fun y => []) (fun y => y.1 ≤ 6 ∧ GoodB vs.length y.2 ∧ y.2 = foldN (fun n b9 => fillR (okR c b g vs u) r (begun ++ [n]) b9) 0 y.1 best) (fun y => 6 - y.1) (0, best) ?_ ?_
  ·
   exact ⟨Nat.zero_le _, hgb, rfl⟩
  ·
   intro ⟨n, bst⟩ hI0
   simp only [List.cons_append, List.nil_append]
   try dsimp only at hI0
   obtain ⟨hn, qgb, qbst⟩ := hI0
   replace F := F.add hn
   refine W.seqk fun K4 hK4 => ?_
   refine rK [1, 2, 3, 4, 5, 6, 7, 15, 43] ?_
   refine it (fun hc3 => ?_) (fun hc3 => ?_)
   ·
    try simp at hc3
    replace F := F.add hc3
    refine W.skip ?_
    refine hK4 _ ?_
    clear hK4 K4
    refine W.seqk fun K5 hK5 => ?_
    refine W.block ?_
    by_cases hbn2 : bst = none
    ·
     replace F := F.add hbn2
     have hn5 : n ≤ 5 := by omega
     obtain ⟨o, qo⟩ : ∃ o, o = fillR (okR c b g vs u) r (begun ++ [(n : Int)]) bst := ⟨_, rfl⟩
     have qgo : GoodB vs.length o := by rw [qo]; exact fillR_good r _ bst (by rw [List.length_append, List.length_cons, List.length_nil]; omega) (good_snoc hs ⟨by omega, by omega⟩) qgb
     have ihn := ih n (by omega) (by omega) bst qgb
     rw [← qo, show ints (begun ++ [(n : Int)]) = .imm (begun.map I ++ [I n]) from by simp] at ihn
     have htk : List.take (begun.length + 1) (begun.map I ++ [I (n : Int)]) = begun.map I ++ [I (n : Int)] := List.take_of_length_le (by simp)
     have hov2 : optV bst = .val (.slice none 0 0) := by rw [hbn2]; rfl
     rw [hov2] at ihn
     replace F := F.add hn5 |>.add htk |>.add hov2
     by_cases hbo : o = none
     ·
      replace F := F.add hbo
      have hovo : optV o = .val (.slice none 0 0) := by rw [hbo]; rfl
      replace F := F.add hovo
      refine wDe 12 [(5, [392]), (8, [408])] [[], [], [], [], [], [4, 3], [], [6], [6, 7, 3, 4, 5], [], [], [], [11, 10, 9, 5, 4, 3, 7, 6, 8, 2, 1, 0], [0, 1, 2, 8, 6, 7, 3, 4, 5, 9, 10, 11, 12]] ?_
      refine dB [([47, 48, 49, 50, 51, 52, 53, 54, 55, 56, 57], [], [392, 408]), ([46, 48, 49, 50, 51, 52, 53, 54, 55, 56, 57], [false], [392, 408]), ([46, 47, 49, 50, 51, 52, 53, 54, 55, 56, 57], [false, false], [392, 408]), ([46, 47, 48, 50, 52, 53, 55, 56, 57], [false, false, false], []), ([46, 47, 48, 49, 52, 53, 55, 56, 57], [false, false, false, false], [])] 7 5 ?_
      refine dAw [46, 47, 48, 52, 53, 55, 56, 57] [false, false, false, true, true] [] [392] ?_
      refine dB [([46, 47, 48, 49, 50, 51, 55, 56, 57], [false, false, false, false, false, false], [392]), ([46, 47, 48, 49, 50, 51, 55, 56, 57], [false, false, false, false, false, false, true], [392])] 4 8 ?_
      refine dAw [46, 47, 48, 55, 56, 57] [false, false, false, true, true, true, true, true] [] [408] ?_
      refine dB [([46, 47, 48, 49, 50, 51, 52, 53, 54, 56, 57], [false, false, false, false, false, false, false, false, false], [392, 408]), ([46, 47, 48, 49, 50, 51, 52, 53, 54, 55, 57], [false, false, false, false, false, false, false, false, false, false], [392, 408]), ([46, 47, 48, 49, 50, 51, 52, 53, 54, 55, 56], [false, false, false, false, false, false, false, false, false, false, false], [392, 408])] 0 12 ?_
      refine dD ?_
      refine fz 432 ?_
      refine oCn [] ?_
      refine ct (ihn) ?_
      refine oN 1 ?_
      refine WOps.endK ?_
      refine hK5 _ ?_
      clear hK5 K5
      refine rEw ?_
      refine ⟨(n + 1, o), lf0, ?_, v0⟩
      ·
       refine ⟨by show n + 1 ≤ 6; omega, qgo, ?_⟩
       show o = foldN (fun n b9 => fillR (okR c b g vs u) r (begun ++ [n]) b9) 0 (n + 1) best
       rw [foldN_snoc, ← qbst, show (0 : Int) + (n : Int) = (n : Int) by omega]; exact qo
     ·
      replace F := F.add hbo
      obtain ⟨y, ys, qy, qyl, qys⟩ := best_some h0 qgo hbo
      have hovo : optV o = .imm (I y :: ys.map I) := by rw [qy]; rfl
      replace F := F.add hovo
      refine wDe 12 [(5, [392]), (8, [408])] [[], [], [], [], [], [4, 3], [], [6], [6, 7, 3, 4, 5], [], [], [], [11, 10, 9, 5, 4, 3, 7, 6, 8, 2, 1, 0], [0, 1, 2, 8, 6, 7, 3, 4, 5, 9, 10, 11, 12]] ?_
      refine dB [([47, 48, 49, 50, 51, 52, 53, 54, 55, 56, 57], [], [392, 408]), ([46, 48, 49, 50, 51, 52, 53, 54, 55, 56, 57], [false], [392, 408]), ([46, 47, 49, 50, 51, 52, 53, 54, 55, 56, 57], [false, false], [392, 408]), ([46, 47, 48, 50, 52, 53, 55, 56, 57], [false, false, false], []), ([46, 47, 48, 49, 52, 53, 55, 56, 57], [false, false, false, false], [])] 7 5 ?_
      refine dAw [46, 47, 48, 52, 53, 55, 56, 57] [false, false, false, true, true] [] [392] ?_
      refine dB [([46, 47, 48, 49, 50, 51, 55, 56, 57], [false, false, false, false, false, false], [392]), ([46, 47, 48, 49, 50, 51, 55, 56, 57], [false, false, false, false, false, false, true], [392])] 4 8 ?_
      refine dAw [46, 47, 48, 55, 56, 57] [false, false, false, true, true, true, true, true] [] [408] ?_
      refine dB [([46, 47, 48, 49, 50, 51, 52, 53, 54, 56, 57], [false, false, false, false, false, false, false, false, false], [392, 408]), ([46, 47, 48, 49, 50, 51, 52, 53, 54, 55, 57], [false, false, false, false, false, false, false, false, false, false], [392, 408]), ([46, 47, 48, 49, 50, 51, 52, 53, 54, 55, 56], [false, false, false, false, false, false, false, false, false, false, false], [392, 408])] 0 12 ?_
      refine dD ?_
      refine fz 432 ?_
      refine oCn [] ?_
      refine ct (ihn) ?_
      refine oN 1 ?_
      refine WOps.endK ?_
      refine hK5 _ ?_
      clear hK5 K5
      refine rEw ?_
      refine ⟨(n + 1, o), lf0, ?_, v0⟩
      ·
       refine ⟨by show n + 1 ≤ 6; omega, qgo, ?_⟩
       show o = foldN (fun n b9 => fillR (okR c b g vs u) r (begun ++ [n]) b9) 0 (n + 1) best
       rw [foldN_snoc, ← qbst, show (0 : Int) + (n : Int) = (n : Int) by omega]; exact qo
    ·
     replace F := F.add hbn2
     have hn5 : n ≤ 5 := by omega
     obtain ⟨o, qo⟩ : ∃ o, o = fillR (okR c b g vs u) r (begun ++ [(n : Int)]) bst := ⟨_, rfl⟩
     have qgo : GoodB vs.length o := by rw [qo]; exact fillR_good r _ bst (by rw [List.length_append, List.length_cons, List.length_nil]; omega) (good_snoc hs ⟨by omega, by omega⟩) qgb
     have ihn := ih n (by omega) (by omega) bst qgb
     rw [← qo, show ints (begun ++ [(n : Int)]) = .imm (begun.map I ++ [I n]) from by simp] at ihn
     have htk : List.take (begun.length + 1) (begun.map I ++ [I (n : Int)]) = begun.map I ++ [I (n : Int)] := List.take_of_length_le (by simp)
     obtain ⟨z, zs, qz, qzl, qzs⟩ := best_some h0 qgb hbn2
     have hov2 : optV bst = .imm (I z :: zs.map I) := by rw [qz]; rfl
     rw [hov2] at ihn
     replace F := F.add hn5 |>.add htk |>.add hov2
     by_cases hbo : o = none
     ·
      replace F := F.add hbo
      have hovo : optV o = .val (.slice none 0 0) := by rw [hbo]; rfl
      replace F := F.add hovo
      refine wDe 12 [(5, [392]), (8, [408])] [[], [], [], [], [], [4, 3], [], [6], [6, 7, 3, 4, 5], [], [], [], [11, 10, 9, 5, 4, 3, 7, 6, 8, 2, 1, 0], [0, 1, 2, 8, 6, 7, 3, 4, 5, 9, 10, 11, 12]] ?_
      refine dB [([47, 48, 49, 50, 51, 52, 53, 54, 55, 56, 57], [], [392, 408]), ([46, 48, 49, 50, 51, 52, 53, 54, 55, 56, 57], [false], [392, 408]), ([46, 47, 49, 50, 51, 52, 53, 54, 55, 56, 57], [false, false], [392, 408]), ([46, 47, 48, 50, 52, 53, 55, 56, 57], [false, false, false], []), ([46, 47, 48, 49, 52, 53, 55, 56, 57], [false, false, false, false], [])] 7 5 ?_
      refine dAw [46, 47, 48, 52, 53, 55, 56, 57] [false, false, false, true, true] [] [392] ?_
      refine dB [([46, 47, 48, 49, 50, 51, 55, 56, 57], [false, false, false, false, false, false], [392]), ([46, 47, 48, 49, 50, 51, 55, 56, 57], [false, false, false, false, false, false, true], [392])] 4 8 ?_
      refine dAw [46, 47, 48, 55, 56, 57] [false, false, false, true, true, true, true, true] [] [408] ?_
      refine dB [([46, 47, 48, 49, 50, 51, 52, 53, 54, 56, 57], [false, false, false, false, false, false, false, false, false], [392, 408]), ([46, 47, 48, 49, 50, 51, 52, 53, 54, 55, 57], [false, false, false, false, false, false, false, false, false, false], [392, 408]), ([46, 47, 48, 49, 50, 51, 52, 53, 54, 55, 56], [false, false, false, false, false, false, false, false, false, false, false], [392, 408])] 0 12 ?_
      refine dD ?_
      refine fz 432 ?_
      refine oCn [] ?_
      refine ct (ihn) ?_
      refine oN 1 ?_
      refine WOps.endK ?_
      refine hK5 _ ?_
      clear hK5 K5
      refine rEw ?_
      refine ⟨(n + 1, o), lf0, ?_, v0⟩
      ·
       refine ⟨by show n + 1 ≤ 6; omega, qgo, ?_⟩
       show o = foldN (fun n b9 => fillR (okR c b g vs u) r (begun ++ [n]) b9) 0 (n + 1) best
       rw [foldN_snoc, ← qbst, show (0 : Int) + (n : Int) = (n : Int) by omega]; exact qo
     ·
      replace F := F.add hbo
      obtain ⟨y, ys, qy, qyl, qys⟩ := best_some h0 qgo hbo
      have hovo : optV o = .imm (I y :: ys.map I) := by rw [qy]; rfl
      replace F := F.add hovo
      refine wDe 12 [(5, [392]), (8, [408])] [[], [], [], [], [], [4, 3], [], [6], [6, 7, 3, 4, 5], [], [], [], [11, 10, 9, 5, 4, 3, 7, 6, 8, 2, 1, 0], [0, 1, 2, 8, 6, 7, 3, 4, 5, 9, 10, 11, 12]] ?_
      refine dB [([47, 48, 49, 50, 51, 52, 53, 54, 55, 56, 57], [], [392, 408]), ([46, 48, 49, 50, 51, 52, 53, 54, 55, 56, 57], [false], [392, 408]), ([46, 47, 49, 50, 51, 52, 53, 54, 55, 56, 57], [false, false], [392, 408]), ([46, 47, 48, 50, 52, 53, 55, 56, 57], [false, false, false], []), ([46, 47, 48, 49, 52, 53, 55, 56, 57], [false, false, false, false], [])] 7 5 ?_
      refine dAw [46, 47, 48, 52, 53, 55, 56, 57] [false, false, false, true, true] [] [392] ?_
      refine dB [([46, 47, 48, 49, 50, 51, 55, 56, 57], [false, false, false, false, false, false], [392]), ([46, 47, 48, 49, 50, 51, 55, 56, 57], [false, false, false, false, false, false, true], [392])] 4 8 ?_
      refine dAw [46, 47, 48, 55, 56, 57] [false, false, false, true, true, true, true, true] [] [408] ?_
      refine dB [([46, 47, 48, 49, 50, 51, 52, 53, 54, 56, 57], [false, false, false, false, false, false, false, false, false], [392, 408]), ([46, 47, 48, 49, 50, 51, 52, 53, 54, 55, 57], [false, false, false, false, false, false, false, false, false, false], [392, 408]), ([46, 47, 48, 49, 50, 51, 52, 53, 54, 55, 56], [false, false, false, false, false, false, false, false, false, false, false], [392, 408])] 0 12 ?_
      refine dD ?_
      refine fz 432 ?_
      refine oCn [] ?_
      refine ct (ihn) ?_
      refine oN 1 ?_
      refine WOps.endK ?_
      refine hK5 _ ?_
      clear hK5 K5
      refine rEw ?_
      refine ⟨(n + 1, o), lf0, ?_, v0⟩
      ·
       refine ⟨by show n + 1 ≤ 6; omega, qgo, ?_⟩
       show o = foldN (fun n b9 => fillR (okR c b g vs u) r (begun ++ [n]) b9) 0 (n + 1) best
       rw [foldN_snoc, ← qbst, show (0 : Int) + (n : Int) = (n : Int) by omega]; exact qo
   ·
    try simp at hc3
    replace F := F.add hc3
    refine W.exit ?_
    refine hK3 _ ?_
    clear hK4 K4 hK3 K3
    by_cases hbn3 : bst = none
    ·
     replace F := F.add hbn3
     have hov3 : optV bst = .val (.slice none 0 0) := by rw [hbn3]; rfl
     replace F := F.add hov3
     refine rK [14] ?_
     refine W.ret ?_
     refine er false [] [] ?_
     first
     | exact ⟨by rw [fillR, if_pos (by rw [qdone]; exact decide_eq_true (by omega)), hov], by trivial⟩
     | exact ⟨by rw [fillR, if_neg (by rw [qdone]; decide), ← show n = 6 by omega, ← qbst, hov3], by trivial⟩
     | exact ⟨by rw [fillR, if_neg (by rw [qdone]; simpa using by omega), ← show n = 6 by omega, ← qbst, hov3], by trivial⟩
    ·
     replace F := F.add hbn3
     obtain ⟨z, zs, qz, qzl, qzs⟩ := best_some h0 qgb hbn3
     have hov3 : optV bst = .imm (I z :: zs.map I) := by rw [qz]; rfl
     replace F := F.add hov3
     refine rK [14] ?_
     refine W.ret ?_
     refine er false [] [] ?_
     first
     | exact ⟨by rw [fillR, if_pos (by rw [qdone]; exact decide_eq_true (by omega)), hov], by trivial⟩
     | exact ⟨by rw [fillR, if_neg (by rw [qdone]; decide), ← show n = 6 by omega, ← qbst, hov3], by trivial⟩
     | exact ⟨by rw [fillR, if_neg (by rw [qdone]; simpa using by omega), ← show n = 6 by omega, ← qbst, hov3], by trivial⟩
 ·
  replace F := F.add hbn
  obtain ⟨x, xs, qx, qxl, qxs⟩ := best_some h0 hgb hbn
  have hov : optV best = .imm (I x :: xs.map I) := by rw [qx]; rfl
  have qdone : doneB begun best = decide (sumI (x :: xs) ≤ sumI begun) := by rw [qx]; rfl
  replace F := F.add hov
  refine W.seqR ?_
  refine oN 3 ?_
  refine gT ?_
  refine gC [] ?_
  refine ct (rsum_ok begun (by omega) hs) ?_
  refine gT ?_
  refine gC [] ?_
  refine ct (rsum_ok (x :: xs) (by omega) qxs) ?_
  refine gT ?_
  refine oN 1 ?_
  refine oK [1, 2, 3, 4, 5, 6, 7, 24] ?_
  refine it (fun hc4 => ?_) (fun hc4 => ?_)
  ·
   try simp at hc4
   replace F := F.add hc4
   refine rK [14] ?_
   refine W.ret ?_
   refine tr ?_
   clear hK1 K1
   refine er false [] [] ?_
   first
   | exact ⟨by rw [fillR, if_pos (by rw [qdone]; exact decide_eq_true (by omega)), hov], by trivial⟩
   | exact ⟨by rw [fillR, if_neg (by rw [qdone]; decide), ← show n = 6 by omega, ← qbst, hov3], by trivial⟩
   | exact ⟨by rw [fillR, if_neg (by rw [qdone]; simpa using by omega), ← show n = 6 by omega, ← qbst, hov3], by trivial⟩
  ·
   try simp at hc4
   replace F := F.add hc4
   refine W.skip ?_
   refine hK1 _ ?_
   clear hK1 K1
   refine W.seqk fun K6 hK6 => ?_
   refine rK [1, 2, 3, 4, 5, 6, 7, 30] ?_
   refine cF ?_
   refine W.skip ?_
   refine hK6 _ ?_
   clear hK6 K6
   refine W.seqk fun K7 hK7 => ?_
   refine rK [1, 2, 3, 4, 5, 6, 7, 15] ?_
   refine W.block ?_
   refine lpa (α := Nat × Option (List Int)) [1, 2, 3, 4, 5, 7] [49, 51, 53, 54, 58] [] (fun y => [(15, I y.1), (6, optV y.2)]) (fun y => []) (fun y => y.1 ≤ 6 ∧ GoodB vs.length y.2 ∧ y.2 = foldN (fun n b9 => fillR (okR c b g vs u) r (begun ++ [n]) b9) 0 y.1 best) (fun y => 6 - y.1) (0, best) ?_ ?_
   ·
    exact ⟨Nat.zero_le _, hgb, rfl⟩
   ·
    intro ⟨n, bst⟩ hI0
    simp only [List.cons_append, List.nil_append]
    try dsimp only at hI0
    obtain ⟨hn, qgb, qbst⟩ := hI0
    replace F := F.add hn
    refine W.seqk fun K8 hK8 => ?_
    refine rK [1, 2, 3, 4, 5, 6, 7, 15, 43] ?_
    refine it (fun hc6 => ?_) (fun hc6 => ?_)
    ·
     try simp at hc6
     replace F := F.add hc6
     refine W.skip ?_
     refine hK8 _ ?_
     clear hK8 K8
     refine W.seqk fun K9 hK9 => ?_
     refine W.block ?_
     by_cases hbn2 : bst = none
     ·
      replace F := F.add hbn2
      have hn5 : n ≤ 5 := by omega
      obtain ⟨o, qo⟩ : ∃ o, o = fillR (okR c b g vs u) r (begun ++ [(n : Int)]) bst := ⟨_, rfl⟩
      have qgo : GoodB vs.length o := by rw [qo]; exact fillR_good r _ bst (by rw [List.length_append, List.length_cons, List.length_nil]; omega) (good_snoc hs ⟨by omega, by omega⟩) qgb
      have ihn := ih n (by omega) (by omega) bst qgb
      rw [← qo, show ints (begun ++ [(n : Int)]) = .imm (begun.map I ++ [I n]) from by simp] at ihn
      have htk : List.take (begun.length + 1) (begun.map I ++ [I (n : Int)]) = begun.map I ++ [I (n : Int)] := List.take_of_length_le (by simp)
      have hov2 : optV bst = .val (.slice none 0 0) := by rw [hbn2]; rfl
      rw [hov2] at ihn
      replace F := F.add hn5 |>.add htk |>.add hov2
      by_cases hbo : o = none
      ·
       replace F := F.add hbo
       have hovo : optV o = .val (.slice none 0 0) := by rw [hbo]; rfl
       replace F := F.add hovo
       refine wDe 12 [(5, [392]), (8, [408])] [[], [], [], [], [], [4, 3], [], [6], [6, 7, 3, 4, 5], [], [], [], [11, 10, 9, 5, 4, 3, 7, 6, 8, 2, 1, 0], [0, 1, 2, 8, 6, 7, 3, 4, 5, 9, 10, 11, 12]] ?_
       refine dB [([47, 48, 49, 50, 51, 52, 53, 54, 55, 56, 57], [], [392, 408]), ([46, 48, 49, 50, 51, 52, 53, 54, 55, 56, 57], [false], [392, 408]), ([46, 47, 49, 50, 51, 52, 53, 54, 55, 56, 57], [false, false], [392, 408]), ([46, 47, 48, 50, 52, 53, 55, 56, 57], [false, false, false], []), ([46, 47, 48, 49, 52, 53, 55, 56, 57], [false, false, false, false], [])] 7 5 ?_
       refine dAw [46, 47, 48, 52, 53, 55, 56, 57] [false, false, false, true, true] [] [392] ?_
       refine dB [([46, 47, 48, 49, 50, 51, 55, 56, 57], [false, false, false, false, false, false], [392]), ([46, 47, 48, 49, 50, 51, 55, 56, 57], [false, false, false, false, false, false, true], [392])] 4 8 ?_
       refine dAw [46, 47, 48, 55, 56, 57] [false, false, false, true, true, true, true, true] [] [408] ?_
       refine dB [([46, 47, 48, 49, 50, 51, 52, 53, 54, 56, 57], [false, false, false, false, false, false, false, false, false], [392, 408]), ([46, 47, 48, 49, 50, 51, 52, 53, 54, 55, 57], [false, false, false, false, false, false, false, false, false, false], [392, 408]), ([46, 47, 48, 49, 50, 51, 52, 53, 54, 55, 56], [false, false, false, false, false, false, false, false, false, false, false], [392, 408])] 0 12 ?_
       refine dD ?_
       refine fz 432 ?_
       refine oCn [] ?_
       refine ct (ihn) ?_
       refine oN 1 ?_
       refine WOps.endK ?_
       refine hK9 _ ?_
       clear hK9 K9
       refine rEw ?_
       refine ⟨(n + 1, o), lf0, ?_, v0⟩
       ·
        refine ⟨by show n + 1 ≤ 6; omega, qgo, ?_⟩
        show o = foldN (fun n b9 => fillR (okR c b g vs u) r (begun ++ [n]) b9) 0 (n + 1) best
        rw [foldN_snoc, ← qbst, show (0 : Int) + (n : Int) = (n : Int) by omega]; exact qo
      ·
       replace F := F.add hbo
       obtain ⟨y, ys, qy, qyl, qys⟩ := best_some h0 qgo hbo
       have hovo : optV o = .imm (I y :: ys.map I) := by rw [qy]; rfl
       replace F := F.add hovo
       refine wDe 12 [(5, [392]), (8, [408])] [[], [], [], [], [], [4, 3], [], [6], [6, 7, 3, 4, 5], [], [], [], [11, 10, 9, 5, 4, 3, 7, 6, 8, 2, 1, 0], [0, 1, 2, 8, 6, 7, 3, 4, 5, 9, 10, 11, 12]] ?_
       refine dB [([47, 48, 49, 50, 51, 52, 53, 54, 55, 56, 57], [], [392, 408]), ([46, 48, 49, 50, 51, 52, 53, 54, 55, 56, 57], [false], [392, 408]), ([46, 47, 49, 50, 51, 52, 53, 54, 55, 56, 57], [false, false], [392, 408]), ([46, 47, 48, 50, 52, 53, 55, 56, 57], [false, false, false], []), ([46, 47, 48, 49, 52, 53, 55, 56, 57], [false, false, false, false], [])] 7 5 ?_
       refine dAw [46, 47, 48, 52, 53, 55, 56, 57] [false, false, false, true, true] [] [392] ?_
       refine dB [([46, 47, 48, 49, 50, 51, 55, 56, 57], [false, false, false, false, false, false], [392]), ([46, 47, 48, 49, 50, 51, 55, 56, 57], [false, false, false, false, false, false, true], [392])] 4 8 ?_
       refine dAw [46, 47, 48, 55, 56, 57] [false, false, false, true, true, true, true, true] [] [408] ?_
       refine dB [([46, 47, 48, 49, 50, 51, 52, 53, 54, 56, 57], [false, false, false, false, false, false, false, false, false], [392, 408]), ([46, 47, 48, 49, 50, 51, 52, 53, 54, 55, 57], [false, false, false, false, false, false, false, false, false, false], [392, 408]), ([46, 47, 48, 49, 50, 51, 52, 53, 54, 55, 56], [false, false, false, false, false, false, false, false, false, false, false], [392, 408])] 0 12 ?_
       refine dD ?_
       refine fz 432 ?_
       refine oCn [] ?_
       refine ct (ihn) ?_
       refine oN 1 ?_
       refine WOps.endK ?_
       refine hK9 _ ?_
       clear hK9 K9
       refine rEw ?_
       refine ⟨(n + 1, o), lf0, ?_, v0⟩
       ·
        refine ⟨by show n + 1 ≤ 6; omega, qgo, ?_⟩
        show o = foldN (fun n b9 => fillR (okR c b g vs u) r (begun ++ [n]) b9) 0 (n + 1) best
        rw [foldN_snoc, ← qbst, show (0 : Int) + (n : Int) = (n : Int) by omega]; exact qo
     ·
      replace F := F.add hbn2
      have hn5 : n ≤ 5 := by omega
      obtain ⟨o, qo⟩ : ∃ o, o = fillR (okR c b g vs u) r (begun ++ [(n : Int)]) bst := ⟨_, rfl⟩
      have qgo : GoodB vs.length o := by rw [qo]; exact fillR_good r _ bst (by rw [List.length_append, List.length_cons, List.length_nil]; omega) (good_snoc hs ⟨by omega, by omega⟩) qgb
      have ihn := ih n (by omega) (by omega) bst qgb
      rw [← qo, show ints (begun ++ [(n : Int)]) = .imm (begun.map I ++ [I n]) from by simp] at ihn
      have htk : List.take (begun.length + 1) (begun.map I ++ [I (n : Int)]) = begun.map I ++ [I (n : Int)] := List.take_of_length_le (by simp)
      obtain ⟨z, zs, qz, qzl, qzs⟩ := best_some h0 qgb hbn2
      have hov2 : optV bst = .imm (I z :: zs.map I) := by rw [qz]; rfl
      rw [hov2] at ihn
      replace F := F.add hn5 |>.add htk |>.add hov2
      by_cases hbo : o = none
      ·
       replace F := F.add hbo
       have hovo : optV o = .val (.slice none 0 0) := by rw [hbo]; rfl
       replace F := F.add hovo
       refine wDe 12 [(5, [392]), (8, [408])] [[], [], [], [], [], [4, 3], [], [6], [6, 7, 3, 4, 5], [], [], [], [11, 10, 9, 5, 4, 3, 7, 6, 8, 2, 1, 0], [0, 1, 2, 8, 6, 7, 3, 4, 5, 9, 10, 11, 12]] ?_
       refine dB [([47, 48, 49, 50, 51, 52, 53, 54, 55, 56, 57], [], [392, 408]), ([46, 48, 49, 50, 51, 52, 53, 54, 55, 56, 57], [false], [392, 408]), ([46, 47, 49, 50, 51, 52, 53, 54, 55, 56, 57], [false, false], [392, 408]), ([46, 47, 48, 50, 52, 53, 55, 56, 57], [false, false, false], []), ([46, 47, 48, 49, 52, 53, 55, 56, 57], [false, false, false, false], [])] 7 5 ?_
       refine dAw [46, 47, 48, 52, 53, 55, 56, 57] [false, false, false, true, true] [] [392] ?_
       refine dB [([46, 47, 48, 49, 50, 51, 55, 56, 57], [false, false, false, false, false, false], [392]), ([46, 47, 48, 49, 50, 51, 55, 56, 57], [false, false, false, false, false, false, true], [392])] 4 8 ?_
       refine dAw [46, 47, 48, 55, 56, 57] [false, false, false, true, true, true, true, true] [] [408] ?_
       refine dB [([46, 47, 48, 49, 50, 51, 52, 53, 54, 56, 57], [false, false, false, false, false, false, false, false, false], [392, 408]), ([46, 47, 48, 49, 50, 51, 52, 53, 54, 55, 57], [false, false, false, false, false, false, false, false, false, false], [392, 408]), ([46, 47, 48, 49, 50, 51, 52, 53, 54, 55, 56], [false, false, false, false, false, false, false, false, false, false, false], [392, 408])] 0 12 ?_
       refine dD ?_
       refine fz 432 ?_
       refine oCn [] ?_
       refine ct (ihn) ?_
       refine oN 1 ?_
       refine WOps.endK ?_
       refine hK9 _ ?_
       clear hK9 K9
       refine rEw ?_
       refine ⟨(n + 1, o), lf0, ?_, v0⟩
       ·
        refine ⟨by show n + 1 ≤ 6; omega, qgo, ?_⟩
        show o = foldN (fun n b9 => fillR (okR c b g vs u) r (begun ++ [n]) b9) 0 (n + 1) best
        rw [foldN_snoc, ← qbst, show (0 : Int) + (n : Int) = (n : Int) by omega]; exact qo
      ·
       replace F := F.add hbo
       obtain ⟨y, ys, qy, qyl, qys⟩ := best_some h0 qgo hbo
       have hovo : optV o = .imm (I y :: ys.map I) := by rw [qy]; rfl
       replace F := F.add hovo
       refine wDe 12 [(5, [392]), (8, [408])] [[], [], [], [], [], [4, 3], [], [6], [6, 7, 3, 4, 5], [], [], [], [11, 10, 9, 5, 4, 3, 7, 6, 8, 2, 1, 0], [0, 1, 2, 8, 6, 7, 3, 4, 5, 9, 10, 11, 12]] ?_
       refine dB [([47, 48, 49, 50, 51, 52, 53, 54, 55, 56, 57], [], [392, 408]), ([46, 48, 49, 50, 51, 52, 53, 54, 55, 56, 57], [false], [392, 408]), ([46, 47, 49, 50, 51, 52, 53, 54, 55, 56, 57], [false, false], [392, 408]), ([46, 47, 48, 50, 52, 53, 55, 56, 57], [false, false, false], []), ([46, 47, 48, 49, 52, 53, 55, 56, 57], [false, false, false, false], [])] 7 5 ?_
       refine dAw [46, 47, 48, 52, 53, 55, 56, 57] [false, false, false, true, true] [] [392] ?_
       refine dB [([46, 47, 48, 49, 50, 51, 55, 56, 57], [false, false, false, false, false, false], [392]), ([46, 47, 48, 49, 50, 51, 55, 56, 57], [false, false, false, false, false, false, true], [392])] 4 8 ?_
       refine dAw [46, 47, 48, 55, 56, 57] [false, false, false, true, true, true, true, true] [] [408] ?_
       refine dB [([46, 47, 48, 49, 50, 51, 52, 53, 54, 56, 57], [false, false, false, false, false, false, false, false, false], [392, 408]), ([46, 47, 48, 49, 50, 51, 52, 53, 54, 55, 57], [false, false, false, false, false, false, false, false, false, false], [392, 408]), ([46, 47, 48, 49, 50, 51, 52, 53, 54, 55, 56], [false, false, false, false, false, false, false, false, false, false, false], [392, 408])] 0 12 ?_
       refine dD ?_
       refine fz 432 ?_
       refine oCn [] ?_
       refine ct (ihn) ?_
       refine oN 1 ?_
       refine WOps.endK ?_
       refine hK9 _ ?_
       clear hK9 K9
       refine rEw ?_
       refine ⟨(n + 1, o), lf0, ?_, v0⟩
       ·
        refine ⟨by show n + 1 ≤ 6; omega, qgo, ?_⟩
        show o = foldN (fun n b9 => fillR (okR c b g vs u) r (begun ++ [n]) b9) 0 (n + 1) best
        rw [foldN_snoc, ← qbst, show (0 : Int) + (n : Int) = (n : Int) by omega]; exact qo
    ·
     try simp at hc6
     replace F := F.add hc6
     refine W.exit ?_
     refine hK7 _ ?_
     clear hK8 K8 hK7 K7
     by_cases hbn3 : bst = none
     ·
      replace F := F.add hbn3
      have hov3 : optV bst = .val (.slice none 0 0) := by rw [hbn3]; rfl
      replace F := F.add hov3
      refine rK [14] ?_
      refine W.ret ?_
      refine er false [] [] ?_
      first
      | exact ⟨by rw [fillR, if_pos (by rw [qdone]; exact decide_eq_true (by omega)), hov], by trivial⟩
      | exact ⟨by rw [fillR, if_neg (by rw [qdone]; decide), ← show n = 6 by omega, ← qbst, hov3], by trivial⟩
      | exact ⟨by rw [fillR, if_neg (by rw [qdone]; simpa using by omega), ← show n = 6 by omega, ← qbst, hov3], by trivial⟩
     ·
      replace F := F.add hbn3
      obtain ⟨z, zs, qz, qzl, qzs⟩ := best_some h0 qgb hbn3
      have hov3 : optV bst = .imm (I z :: zs.map I) := by rw [qz]; rfl
      replace F := F.add hov3
      refine rK [14] ?_
      refine W.ret ?_
      refine er false [] [] ?_
      first
      | exact ⟨by rw [fillR, if_pos (by rw [qdone]; exact decide_eq_true (by omega)), hov], by trivial⟩
      | exact ⟨by rw [fillR, if_neg (by rw [qdone]; decide), ← show n = 6 by omega, ← qbst, hov3], by trivial⟩
      | exact ⟨by rw [fillR, if_neg (by rw [qdone]; simpa using by omega), ← show n = 6 by omega, ← qbst, hov3], by trivial⟩
theorem rfill_ok (c : Cel) (hv : ValidC c) (b : Nat) (hb : b < c.boxes.length) (vs : List Int) (h6 : vs.length ≤ 6) (h0 : 0 < vs.length) (g : Int) (hgr : 0 ≤ g ∧ g ≤ 100000) (u : Nat) (hu : u ≤ 240) : ∀ (r : Nat) (begun : List Int), begun.length + r = vs.length → (∀ y ∈ begun, 0 ≤ y ∧ y ≤ 5) → ∀ best : Option (List Int), GoodB vs.length best →
    ACalls Try.prog 74 [celV c, I b, ints vs, ints begun, I g, I u, optV best] [] (fun r' o => r' = optV (fillR (okR c b g vs u) r begun best) ∧ o = [])
  | 0, begun, hp, hs, best, hg => rfill_zero c hv b hb vs h6 h0 g hgr u hu begun (by omega) hs best hg
  | r + 1, begun, hp, hs, best, hg => rfill_step c hv b hb vs h6 h0 g hgr u hu r begun hp hs best hg fun n h1 h2 bst hb2 =>
      rfill_ok c hv b hb vs h6 h0 g hgr u hu r (begun ++ [n]) (by rw [List.length_append, List.length_cons, List.length_nil]; omega) (good_snoc hs ⟨h1, h2⟩) bst hb2
set_option maxHeartbeats 4000000 in
theorem rFill_ok (c : Cel) (b : Int) (vs : List Int) (g u : Int) : ACalls Try.prog 25 [celV c, I b, ints vs, I g, I u] [] (fun r o => r = .tup [optV (fillX c b vs g u), I (fillE c b vs g u)] ∧ o = []) := by
 refine ACalls.lenA (xs := [I c.hall.lo, I c.hall.hi, boxesV c.boxes, filsV c.fils, ratsV c.rats]) (l := c.boxes.map B9) (by simp) (by simp) ⟨_, Try.func25, by kernel_rfl, by kernel_rfl⟩ fun hl1 => ?_
 simp [maxLen_val] at hl1
 have F := Fx.nil
 refine ent Try.func25 Try.ntmps25 Try.results25 ?_
 refine rK [1, 2, 3, 4, 5] ?_
 refine W.seqk fun K1 hK1 => ?_
 refine W.seqR ?_
 refine oN 1 ?_
 refine oC [] ?_
 refine ct (rCheck_ok ⟨⟨_, _⟩, _, _, _⟩) ?_
 refine oN 1 ?_
 refine oK [1, 2, 3, 4, 5, 12] ?_
 refine rK [1, 2, 3, 4, 5, 12, 18] ?_
 refine it (fun hc1 => ?_) (fun hc1 => ?_)
 ·
  try simp at hc1
  replace F := F.add hc1
  refine rK [10, 11] ?_
  refine W.ret ?_
  refine tr ?_
  clear hK1 K1
  refine er false [] [] ?_
  (try simp only [inB_t, inB_f] at *)
  first
  | exact ⟨by rw [qX, qE, qb, qun, qoF, hon]; rfl, by trivial⟩
  | exact ⟨by rw [qX, qE, qb, qun, qoF, qy]; rfl, by trivial⟩
  | exact ⟨fill_err (by rw [fillPE, if_pos (by assumption)]) (by assumption), by trivial⟩
  | exact ⟨fill_err (by rw [fillPE, if_neg (fun k => k (by assumption)), if_pos (by omega)]) (by decide), by trivial⟩
  | exact ⟨fill_err (by rw [fillPE, if_neg (fun k => k (by assumption)), if_neg (by omega), if_pos (by assumption)]) (by assumption), by trivial⟩
  | exact ⟨fill_err (by rw [fillPE, if_neg (fun k => k (by assumption)), if_neg (by omega), if_neg (fun k => k (by assumption)), if_pos (by omega)]) (by decide), by trivial⟩
 ·
  try simp at hc1
  replace F := F.add hc1
  refine W.skip ?_
  refine hK1 _ ?_
  clear hK1 K1
  refine W.seqk fun K2 hK2 => ?_
  refine W.seqR ?_
  refine oNw 5 ?_
  refine oC [] ?_
  refine ct (within_ok _ _ _) ?_
  refine oN 1 ?_
  refine oK [1, 2, 3, 4, 5, 26] ?_
  refine it (fun hc2 => ?_) (fun hc2 => ?_)
  ·
   try simp at hc2
   replace F := F.add hc2
   refine rK [10, 11] ?_
   refine W.ret ?_
   refine tr ?_
   clear hK2 K2
   refine er false [] [] ?_
   (try simp only [inB_t, inB_f] at *)
   first
   | exact ⟨by rw [qX, qE, qb, qun, qoF, hon]; rfl, by trivial⟩
   | exact ⟨by rw [qX, qE, qb, qun, qoF, qy]; rfl, by trivial⟩
   | exact ⟨fill_err (by rw [fillPE, if_pos (by assumption)]) (by assumption), by trivial⟩
   | exact ⟨fill_err (by rw [fillPE, if_neg (fun k => k (by assumption)), if_pos (by omega)]) (by decide), by trivial⟩
   | exact ⟨fill_err (by rw [fillPE, if_neg (fun k => k (by assumption)), if_neg (by omega), if_pos (by assumption)]) (by assumption), by trivial⟩
   | exact ⟨fill_err (by rw [fillPE, if_neg (fun k => k (by assumption)), if_neg (by omega), if_neg (fun k => k (by assumption)), if_pos (by omega)]) (by decide), by trivial⟩
  ·
   try simp at hc2
   replace F := F.add hc2
   refine W.skip ?_
   refine hK2 _ ?_
   clear hK2 K2
   refine W.seqk fun K3 hK3 => ?_
   refine W.seqR ?_
   refine oN 1 ?_
   refine oC [] ?_
   refine ct (rcheckVisits_ok _) ?_
   refine oN 1 ?_
   refine oK [1, 2, 3, 4, 5, 13] ?_
   refine rK [1, 2, 3, 4, 5, 13, 30] ?_
   refine it (fun hc3 => ?_) (fun hc3 => ?_)
   ·
    try simp at hc3
    replace F := F.add hc3
    refine rK [10, 11] ?_
    refine W.ret ?_
    refine tr ?_
    clear hK3 K3
    refine er false [] [] ?_
    (try simp only [inB_t, inB_f] at *)
    first
    | exact ⟨by rw [qX, qE, qb, qun, qoF, hon]; rfl, by trivial⟩
    | exact ⟨by rw [qX, qE, qb, qun, qoF, qy]; rfl, by trivial⟩
    | exact ⟨fill_err (by rw [fillPE, if_pos (by assumption)]) (by assumption), by trivial⟩
    | exact ⟨fill_err (by rw [fillPE, if_neg (fun k => k (by assumption)), if_pos (by omega)]) (by decide), by trivial⟩
    | exact ⟨fill_err (by rw [fillPE, if_neg (fun k => k (by assumption)), if_neg (by omega), if_pos (by assumption)]) (by assumption), by trivial⟩
    | exact ⟨fill_err (by rw [fillPE, if_neg (fun k => k (by assumption)), if_neg (by omega), if_neg (fun k => k (by assumption)), if_pos (by omega)]) (by decide), by trivial⟩
   ·
    try simp at hc3
    replace F := F.add hc3
    refine W.skip ?_
    refine hK3 _ ?_
    clear hK3 K3
    refine W.seqk fun K4 hK4 => ?_
    by_cases hgg : inB g 1 100000 = true
    ·
     replace F := F.add hgg
     refine W.seqR ?_
     refine oN 1 ?_
     refine oC [] ?_
     refine ct (within_ok _ _ _) ?_
     refine oN 2 ?_
     refine gT ?_
     refine gC [] ?_
     refine ct (within_ok _ _ _) ?_
     refine gT ?_
     refine oN 1 ?_
     refine oK [1, 2, 3, 4, 5, 39] ?_
     refine it (fun hc4 => ?_) (fun hc4 => ?_)
     ·
      try simp at hc4
      replace F := F.add hc4
      refine rK [10, 11] ?_
      refine W.ret ?_
      refine tr ?_
      clear hK4 K4
      refine er false [] [] ?_
      (try simp only [inB_t, inB_f] at *)
      first
      | exact ⟨by rw [qX, qE, qb, qun, qoF, hon]; rfl, by trivial⟩
      | exact ⟨by rw [qX, qE, qb, qun, qoF, qy]; rfl, by trivial⟩
      | exact ⟨fill_err (by rw [fillPE, if_pos (by assumption)]) (by assumption), by trivial⟩
      | exact ⟨fill_err (by rw [fillPE, if_neg (fun k => k (by assumption)), if_pos (by omega)]) (by decide), by trivial⟩
      | exact ⟨fill_err (by rw [fillPE, if_neg (fun k => k (by assumption)), if_neg (by omega), if_pos (by assumption)]) (by assumption), by trivial⟩
      | exact ⟨fill_err (by rw [fillPE, if_neg (fun k => k (by assumption)), if_neg (by omega), if_neg (fun k => k (by assumption)), if_pos (by omega)]) (by decide), by trivial⟩
     ·
      try simp at hc4
      replace F := F.add hc4
      refine W.skip ?_
      refine hK4 _ ?_
      clear hK4 K4
      (try simp only [inB_t, inB_f] at *)
      have qe : fillPE c b vs g u = 0 := by rw [fillPE, if_neg (fun k => k (by assumption)), if_neg (by omega), if_neg (fun k => k (by assumption)), if_neg (by omega)]
      obtain ⟨qv, ⟨bn, qbn, qbl⟩, ⟨q0, q6, qvs⟩, qg, un, qun, qu1, qu2⟩ := fillPE_ok qe
      have hbn := qbn
      have hun := qun
      obtain ⟨qX, qE⟩ := fillX_yes qe
      have qF := ref_fill (b := bn) (grams := g) (til := (un : Int)) (vs := vs) qv
      have qb : b.toNat = bn := by omega
      obtain ⟨o, qo⟩ : ∃ o, o = fillR (okR c bn g vs un) vs.length [] none := ⟨_, rfl⟩
      have ihn := ACalls.nil4 (rfill_ok c qv bn qbl vs q6 q0 g (by omega) un qu2 vs.length [] (by simp) (fun k hk => by cases hk) none (fun x hx => by cases hx))
      have qgo : GoodB vs.length o := by rw [qo]; exact fillR_good vs.length [] none (by simp) (fun k hk => by cases hk) (fun x hx => by cases hx)
      rw [← qo] at ihn
      have qoF : fillC c bn vs g un = o := qF.symm.trans qo.symm
      replace F := F.add hbn |>.add hun
      by_cases hon : o = none
      ·
       replace F := F.add hon
       have hovo : optV o = .val (.slice none 0 0) := by rw [hon]; rfl
       replace F := F.add hovo
       refine W.seqR ?_
       refine oN 5 ?_
       refine oCn [] ?_
       refine ct (ihn) ?_
       refine oN 1 ?_
       refine oK [14] ?_
       refine W.seqk fun K5 hK5 => ?_
       refine rK [14, 47] ?_
       refine cT ?_
       refine rK [10, 11] ?_
       refine W.ret ?_
       refine tr ?_
       clear hK5 K5
       refine er false [] [] ?_
       (try simp only [inB_t, inB_f] at *)
       first
       | exact ⟨by rw [qX, qE, qb, qun, qoF, hon]; rfl, by trivial⟩
       | exact ⟨by rw [qX, qE, qb, qun, qoF, qy]; rfl, by trivial⟩
       | exact ⟨fill_err (by rw [fillPE, if_pos (by assumption)]) (by assumption), by trivial⟩
       | exact ⟨fill_err (by rw [fillPE, if_neg (fun k => k (by assumption)), if_pos (by omega)]) (by decide), by trivial⟩
       | exact ⟨fill_err (by rw [fillPE, if_neg (fun k => k (by assumption)), if_neg (by omega), if_pos (by assumption)]) (by assumption), by trivial⟩
       | exact ⟨fill_err (by rw [fillPE, if_neg (fun k => k (by assumption)), if_neg (by omega), if_neg (fun k => k (by assumption)), if_pos (by omega)]) (by decide), by trivial⟩
      ·
       replace F := F.add hon
       obtain ⟨y, ys, qy, qyl, qys⟩ := best_some q0 qgo hon
       have hovo : optV o = .imm (I y :: ys.map I) := by rw [qy]; rfl
       replace F := F.add hovo
       refine W.seqR ?_
       refine oN 5 ?_
       refine oCn [] ?_
       refine ct (ihn) ?_
       refine oN 1 ?_
       refine oK [14] ?_
       refine W.seqk fun K6 hK6 => ?_
       refine rK [14, 47] ?_
       refine cF ?_
       refine W.skip ?_
       refine hK6 _ ?_
       clear hK6 K6
       refine rK [10, 11] ?_
       refine W.ret ?_
       refine er false [] [] ?_
       (try simp only [inB_t, inB_f] at *)
       first
       | exact ⟨by rw [qX, qE, qb, qun, qoF, hon]; rfl, by trivial⟩
       | exact ⟨by rw [qX, qE, qb, qun, qoF, qy]; rfl, by trivial⟩
       | exact ⟨fill_err (by rw [fillPE, if_pos (by assumption)]) (by assumption), by trivial⟩
       | exact ⟨fill_err (by rw [fillPE, if_neg (fun k => k (by assumption)), if_pos (by omega)]) (by decide), by trivial⟩
       | exact ⟨fill_err (by rw [fillPE, if_neg (fun k => k (by assumption)), if_neg (by omega), if_pos (by assumption)]) (by assumption), by trivial⟩
       | exact ⟨fill_err (by rw [fillPE, if_neg (fun k => k (by assumption)), if_neg (by omega), if_neg (fun k => k (by assumption)), if_pos (by omega)]) (by decide), by trivial⟩
    ·
     replace F := F.add hgg
     refine W.seqR ?_
     refine oN 1 ?_
     refine oC [] ?_
     refine ct (within_ok _ _ _) ?_
     refine oN 2 ?_
     refine gF ?_
     refine gF ?_
     refine gF ?_
     refine oN 1 ?_
     refine oK [1, 2, 3, 4, 5, 39] ?_
     refine cT ?_
     refine rK [10, 11] ?_
     refine W.ret ?_
     refine tr ?_
     clear hK4 K4
     refine er false [] [] ?_
     (try simp only [inB_t, inB_f] at *)
     first
     | exact ⟨by rw [qX, qE, qb, qun, qoF, hon]; rfl, by trivial⟩
     | exact ⟨by rw [qX, qE, qb, qun, qoF, qy]; rfl, by trivial⟩
     | exact ⟨fill_err (by rw [fillPE, if_pos (by assumption)]) (by assumption), by trivial⟩
     | exact ⟨fill_err (by rw [fillPE, if_neg (fun k => k (by assumption)), if_pos (by omega)]) (by decide), by trivial⟩
     | exact ⟨fill_err (by rw [fillPE, if_neg (fun k => k (by assumption)), if_neg (by omega), if_pos (by assumption)]) (by assumption), by trivial⟩
     | exact ⟨fill_err (by rw [fillPE, if_neg (fun k => k (by assumption)), if_neg (by omega), if_neg (fun k => k (by assumption)), if_pos (by omega)]) (by decide), by trivial⟩
end Go.Sim
