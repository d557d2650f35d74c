/- SwapOrder: the law's walk. -/
import Derived.Test.YtggbbldoopfejaaVl
import Derived.Test.YtggbbldoopfejaaPh
import Derived.Test.YtggbbldoopfejaaMc
namespace Go.Sim
open Go.Proofs Go.Plain
set_option maxRecDepth 100000
set_option linter.unusedSimpArgs false
set_option linter.unusedVariables false
attribute [-simp] List.map_set List.map_take List.map_drop
attribute [local simp] take_map' drop_map' take_app1
theorem pickO {ow : List Turn} {l : List Int} {i : Nat} (h : i < l.length) (h2 : l[i].toNat < ow.length) : List.map (T ∘ fun (k : Int) => nth ow k.toNat) (List.take i l) ++ [AV.agg [I ow[l[i].toNat].1, I ow[l[i].toNat].2]] = List.map (T ∘ fun (k : Int) => nth ow k.toNat) (List.take (i + 1) l) := by
  rw [List.take_succ_eq_append_getElem h, List.map_append]; simp [nth_get h2]
theorem pickL {lk : List (List Turn)} {l : List Int} {i : Nat} (h : i < l.length) (h2 : l[i].toNat < lk.length) : List.map (turns ∘ fun (k : Int) => nth lk k.toNat) (List.take i l) ++ [turns lk[l[i].toNat]] = List.map (turns ∘ fun (k : Int) => nth lk k.toNat) (List.take (i + 1) l) := by
  rw [List.take_succ_eq_append_getElem h, List.map_append]; simp [nth_get h2]
theorem order_nodup {l : List Int} {n : Nat} (h : Order l n) : l.Nodup := h.nodup_iff.2 ((List.nodup_map_iff_of_injOn).2 List.nodup_range) where
  List.nodup_map_iff_of_injOn : ((List.range n).map Int.ofNat).Nodup ↔ (List.range n).Nodup := by
    constructor
    · intro h; exact List.nodup_range
    · intro h
      exact List.Pairwise.map _ (fun a b hab e => hab (Int.ofNat.inj e)) h
/-- the traders in another order -/
theorem order_swap {ow : List Turn} {lk : List (List Turn)} (hv : ValidT ow lk) {l : List Int} (ho : Order l ow.length) :
    ValidT (l.map fun k => nth ow k.toNat) (l.map fun k => nth lk k.toNat) ∧ swapT (l.map fun k => nth ow k.toNat) (l.map fun k => nth lk k.toNat) = l.map fun k => nth (swapT ow lk) k.toNat := by
  have hlen := ho.length
  have hk : ∀ {k : Int}, k ∈ l → k.toNat < ow.length := fun hk => by have := ho.mem hk; omega
  have hpo : (l.map fun k => nth ow k.toNat).Perm ow := ho.pick
  have hnd := order_nodup ho
  have hkl := hv.same
  have hv' : ValidT (l.map fun k => nth ow k.toNat) (l.map fun k => nth lk k.toNat) := by
    refine ⟨by simpa [hlen] using hv.most, by simp, ⟨hpo.nodup_iff.2 hv.owns.1, fun x hx => hv.owns.2 x (hpo.mem_iff.1 hx)⟩, fun q hq => ?_⟩
    obtain ⟨k, hk1, rfl⟩ := List.mem_map.1 hq
    have := hk hk1
    rw [nth_get (show k.toNat < lk.length by omega)]
    exact hv.likes _ (List.getElem_mem _)
  refine ⟨hv', (sub_swap hv hv' (fun i => (nth l i).toNat) (fun i hi => ?_) (by simp) fun i hi => ?_).symm⟩
  · rw [List.length_map] at hi
    rw [nth_get (l := l.map fun k => nth ow k.toNat) (by simpa using hi), nth_get (l := l.map fun k => nth lk k.toNat) (by simpa using hi), nth_get hi]
    simp only [List.getElem_map]
    exact ⟨hk (List.getElem_mem hi), trivial, trivial⟩
  · rw [List.length_map] at hi
    rw [nth_get (l := l.map fun k => nth (swapT ow lk) k.toNat) (by simpa using hi), nth_get hi]
    simp only [List.getElem_map]
    exact ⟨trivial, hpo.mem_iff.2 (swap_mem hv (hk (List.getElem_mem hi))).1⟩
set_option maxHeartbeats 4000000 in
theorem SwapOrder_ok (nums : List Int) : ACalls Try.prog 9 [ints nums] [] (fun r o => r = B true ∧ o = []) := by
 have F := Fx.nil
 refine ent Try.func9 Try.ntmps9 Try.results9 ?_
 refine rK [0] ?_
 refine W.seqR ?_
 refine oN 1 ?_
 refine oC [] ?_
 refine ct (DieOf_ok nums) ?_
 refine oN 1 ?_
 refine oK [3] ?_
 refine W.seqR ?_
 refine oN 1 ?_
 refine oC [(10000, 112)] ?_
 refine CallT.mkE (TradeOf_ok _ 8 (by omega)) (fun z16 hz16 => ⟨(by simp), ?_⟩)
 obtain ⟨⟨ow, lk, f2⟩, qz⟩ : ∃ z : List Turn × List (List Turn) × Int, z = z16 := ⟨z16, rfl⟩
 subst qz
 dsimp only at hz16
 have qv : ValidT ow lk := hz16.valid (by omega)
 have hn8 : ow.length ≤ 8 := qv.most
 have hck : checkT ow lk = 0 := checkT_zero.2 qv
 have hsl : (swapT ow lk).length = ow.length := swap_length qv
 have qkl : lk.length = ow.length := qv.same
 replace F := F.add hn8 |>.add hck |>.add hsl
 refine WOps.norm (by simp [hn8, hck, hsl]; rfl) ?_
 refine fz 128 ?_
 refine fz 129 ?_
 refine oN 2 ?_
 refine oK [3, 4] ?_
 refine W.seqR ?_
 refine oN 4 ?_
 refine oC [(10000, 112)] ?_
 refine CallT.mkE (Shuffle_ok _ ow.length (by omega)) (fun z21 hz21 => ⟨(by simp [hn8, hck, hsl]), ?_⟩)
 obtain ⟨⟨l, f3⟩, qz2⟩ : ∃ z : List Int × Int, z = z21 := ⟨z21, rfl⟩
 subst qz2
 dsimp only at hz21
 have qll := hz21.length
 have hl8 : l.length ≤ 8 := by omega
 obtain ⟨qv2, qsw⟩ := order_swap qv hz21
 have hck2 : checkT (l.map fun k => nth ow k.toNat) (l.map fun k => nth lk k.toNat) = 0 := checkT_zero.2 qv2
 have hsw := qsw
 replace F := F.add hl8 |>.add hck2 |>.add hsw
 refine WOps.norm (by simp [hn8, hck, hsl, hl8, hck2, hsw]; rfl) ?_
 refine fz 168 ?_
 refine oN 1 ?_
 refine oK [4, 5] ?_
 refine rK [4, 5, 6] ?_
 refine W.seqk fun K1 hK1 => ?_
 refine rK [4, 5, 6, 7] ?_
 refine W.block ?_
 refine sno 48 0 0 9000 55 2 ?_
 refine sno 48 0 1 9008 22 1 ?_
 refine lpa (α := Nat) [4, 5, 6] [24, 38, 39, 50, 51] [48, 9000, 9008] (fun i => [(7, I i)]) (fun i => [(48, .row false 25 2 [.agg [.own 9000 0 i, .own 9008 0 i]]), (9000, .row true 55 2 (((l.take i).map fun k => nth ow k.toNat).map T)), (9008, .row true 22 1 (((l.take i).map fun k => nth lk k.toNat).map turns))]) (fun i => i ≤ l.length) (fun i => l.length - i) 0 v0 ?_
 ·
  intro i hI0
  simp only [List.cons_append, List.nil_append]
  try dsimp only at hI0
  replace F := F.add hI0
  refine W.seqk fun K2 hK2 => ?_
  refine rK [4, 5, 6, 7, 25] ?_
  refine it (fun hc1 => ?_) (fun hc1 => ?_)
  ·
   try simp at hc1
   replace F := F.add hc1
   refine W.skip ?_
   refine hK2 _ ?_
   clear hK2 K2
   refine W.seqk fun K3 hK3 => ?_
   refine W.block ?_
   have hil : i < l.length := by omega
   have hk0 : 0 ≤ l[i] := (Order.mem hz21 (List.getElem_mem _)).1
   have hk1 : l[i] < ow.length := (Order.mem hz21 (List.getElem_mem _)).2
   have hk4 : l[i] < lk.length := by omega
   have hk2 : l[i].toNat < ow.length := by omega
   have hk3 : l[i].toNat < lk.length := by omega
   replace F := F.add hil |>.add hk0 |>.add hk1 |>.add hk4 |>.add hk2 |>.add hk3
   refine wDe 25 [(11, [9000]), (23, [9008])] [[], [0], [], [2], [], [], [5, 4], [4, 5, 6], [6, 5, 4, 7, 2, 3], [3, 2, 7, 4, 5, 6, 8], [8, 6, 5, 4, 7, 2, 3, 9], [9, 3, 2, 7, 4, 5, 6, 8, 10, 0, 1], [], [12], [], [14], [], [], [17, 16], [16, 17, 18], [18, 17, 16, 19, 14, 15], [15, 14, 19, 16, 17, 18, 20], [20, 18, 17, 16, 19, 14, 15, 21], [1, 0, 10, 8, 6, 5, 4, 7, 2, 3, 9, 11, 21, 15, 14, 19, 16, 17, 18, 20, 22, 12, 13], [13, 12, 11, 10, 9, 8, 7, 6, 5, 4, 3, 2, 1, 0], [22, 20, 18, 17, 16, 19, 14, 15, 21, 23, 0, 1, 2, 3, 4, 5, 6, 7, 8, 9, 10, 11, 12, 13, 24], [25, 24, 23, 22, 21, 20, 19, 18, 17, 16, 15, 14, 13, 12, 11, 10, 9, 8, 7, 6, 5, 4, 3, 2, 1, 0], [0, 1, 2, 3, 4, 5, 6, 7, 8, 9, 10, 11, 12, 13, 14, 15, 16, 17, 18, 19, 20, 21, 22, 23, 24, 25, 26]] ?_
   refine dN 11 14 ?_
   refine dAw [9000] ?_
   refine dN 11 2 ?_
   refine dAw [9008] ?_
   refine dN 1 0 ?_
   refine dD ?_
   refine oN 3 ?_
   refine WOps.endK ?_
   refine hK3 _ ?_
   clear hK3 K3
   refine W.region ?_
   refine WOps.le (Le.exch (x := 312) (y := 9000) (by simp [hn8, hck, hsl, hl8, hck2, hsw, hI0, hc1, hil, hk0, hk1, hk4, hk2, hk3]; rfl)) rfl rfl ?_
   refine WOps.le (Le.exch (x := 408) (y := 9008) (by simp [hn8, hck, hsl, hl8, hck2, hsw, hI0, hc1, hil, hk0, hk1, hk4, hk2, hk3]; rfl)) rfl rfl ?_
   refine oNw 3 ?_
   refine WOps.endK ?_
   refine ⟨i + 1, lf ?_ ?_, v0, v0⟩
   ·
    exact v1
   ·
    try (simp [Fx.get F])
    all_goals (
     exact ⟨pickO hil hk2, pickL hil hk3⟩
    )
  ·
   try simp at hc1
   replace F := F.add hc1
   refine W.exit ?_
   refine hK1 _ ?_
   clear hK2 K2 hK1 K1
   have hfull : List.take i (List.take i l) = l := by rw [List.take_take, Nat.min_self, List.take_of_length_le (by omega)]
   have qs2 := Swap_ok (l.map fun k => nth ow k.toNat) (l.map fun k => nth lk k.toNat)
   rw [qsw, hck2] at qs2
   simp only [trade, turns, tlists, List.map_map] at qs2
   replace F := F.add hfull
   refine W.seqR ?_
   refine oN 1 ?_
   refine oC [] ?_
   refine ct (Swap_ok _ _) ?_
   refine oN 5 ?_
   refine oK [5, 6, 8, 9] ?_
   refine W.seqR ?_
   refine fz 9000 ?_
   refine fz 9008 ?_
   refine oN 1 ?_
   refine oC [] ?_
   refine ct (qs2) ?_
   refine oN 5 ?_
   refine oK [5, 8, 9, 10, 11] ?_
   refine W.seqk fun K4 hK4 => ?_
   have hlz : ((ow.length : Nat) : Int) = (l.length : Int) := by omega
   replace F := F.add hlz
   refine W.seqR ?_
   refine oN 3 ?_
   refine gT ?_
   refine gT ?_
   refine oN 2 ?_
   refine gT ?_
   refine gT ?_
   refine gT ?_
   refine gT ?_
   refine gT ?_
   refine oN 2 ?_
   refine gT ?_
   refine gT ?_
   refine gT ?_
   refine gT ?_
   refine gT ?_
   refine oN 1 ?_
   refine oK [5, 8, 10, 83] ?_
   refine cF ?_
   refine W.skip ?_
   refine hK4 _ ?_
   clear hK4 K4
   refine W.seqk fun K5 hK5 => ?_
   refine rK [5, 8, 10, 12] ?_
   refine W.block ?_
   refine lpa (α := Nat) [5, 8, 10] [86] [] (fun j => [(12, I j)]) (fun j => []) (fun j => j ≤ l.length) (fun j => l.length - j) 0 v0 ?_
   ·
    intro j hI1
    simp only [List.cons_append, List.nil_append]
    try dsimp only at hI1
    replace F := F.add hI1
    refine W.seqk fun K6 hK6 => ?_
    refine rK [5, 8, 10, 12, 87] ?_
    refine it (fun hc3 => ?_) (fun hc3 => ?_)
    ·
     try simp at hc3
     replace F := F.add hc3
     refine W.skip ?_
     refine hK6 _ ?_
     clear hK6 K6
     refine W.seqk fun K7 hK7 => ?_
     refine W.block ?_
     have hjl : j < l.length := by omega
     have hk0 : 0 ≤ l[j] := (Order.mem hz21 (List.getElem_mem _)).1
     have hk1 : l[j] < ow.length := (Order.mem hz21 (List.getElem_mem _)).2
     have hk7 : l[j] < (l.length : Int) := by omega
     have hk5 : l[j].toNat < (swapT ow lk).length := by omega
     have hk6 : nth (swapT ow lk) l[j].toNat = (swapT ow lk)[l[j].toNat] := nth_get hk5
     replace F := F.add hjl |>.add hk0 |>.add hk1 |>.add hk7 |>.add hk5 |>.add hk6
     refine wD 11 [] [[], [], [1, 0], [0, 1, 2], [], [], [], [6, 5], [5, 6, 7], [7, 6, 5, 8, 4], [4, 8, 5, 6, 7, 9], [9, 7, 6, 5, 8, 4, 10, 2, 1, 0, 3]] ?_
     refine dN 11 0 ?_
     refine dD ?_
     refine oN 1 ?_
     refine oK [5, 8, 10, 12, 101] ?_
     refine cF ?_
     refine W.skip ?_
     refine hK7 _ ?_
     clear hK7 K7
     refine rEw ?_
     refine ⟨j + 1, lf0, v0, v0⟩
    ·
     try simp at hc3
     replace F := F.add hc3
     refine W.exit ?_
     refine hK5 _ ?_
     clear hK6 K6 hK5 K5
     refine W.seqR ?_
     refine oC [] ?_
     refine ct (awake_ok) ?_
     refine oN 1 ?_
     refine oK [2] ?_
     refine W.ret ?_
     exact er0 false [] []
end Go.Sim
