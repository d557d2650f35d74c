/- Lettings that are copied and compared. -/
import Derived.Test.YticllllmgpjbcaaLd
namespace Go.Sim
open Go.Proofs
set_option maxRecDepth 100000
set_option linter.unusedSimpArgs false
set_option linter.unusedVariables false
attribute [-simp] List.map_set List.map_take List.map_drop
def E2 (x : Int × Int) : AV := .agg [I x.1, I x.2]
theorem E2_def (x : Int × Int) : E2 x = .agg [I x.1, I x.2] := rfl
theorem pair_beq (a b : Int × Int) : (a.1 == b.1 && a.2 == b.2) = (a == b) := rfl
attribute [simp] E2_def pair_beq
set_option maxHeartbeats 4000000 in
theorem CopyLetting_ok (l : Lett) (h1 : l.stalls.length ≤ 1000) (h2 : l.apps.length ≤ 1000) (h3 : ∀ a ∈ l.apps, a.wishes.length ≤ 1000 ∧ a.bids.length ≤ 1000) : ACalls Try.prog 22 [letV l] [] (fun r o => r = .agg [.own 20000 0 l.stalls.length, .own 20001 0 l.apps.length] ∧ o = [(20000, .row true 74 3 (l.stalls.map S3)), (20001, .row true 54 4 (l.apps.map A4))]) := by
 have F := Fx.nil
 refine ent Try.func22 Try.ntmps22 Try.results22 ?_
 refine rK [1, 2] ?_
 refine rKw [1, 2, 3] ?_
 refine W.seqk fun K1 hK1 => ?_
 refine rK [1, 2, 3, 4] ?_
 refine W.block ?_
 refine sno 24 0 1 9000 54 4 ?_
 refine lpa (α := Nat) [1, 2, 3] [5, 14, 25, 28, 34, 35] [24, 9000] (fun i => [(4, I i)]) (fun i => [(24, .row false 34 2 [.agg [.own 48 0 l.stalls.length, .own 9000 0 i]]), (9000, .row true 54 4 ((l.apps.take i).map A4))]) (fun i => i ≤ l.apps.length) (fun i => l.apps.length - i) 0 v0 ?_
 ·
  intro i hI0
  simp only [List.cons_append, List.nil_append]
  try dsimp only at hI0
  replace F := F.add hI0
  refine W.seqk fun K2 hK2 => ?_
  refine rK [1, 2, 3, 4, 15] ?_
  refine it (fun hc1 => ?_) (fun hc1 => ?_)
  ·
   try simp at hc1
   replace F := F.add hc1
   refine W.skip ?_
   refine hK2 _ ?_
   clear hK2 K2
   refine W.seqk fun K3 hK3 => ?_
   refine W.block ?_
   have hil : i < l.apps.length := by omega
   have qq := h3 _ (List.getElem_mem hil)
   have hq1 : l.apps[i].wishes.length ≤ 1000 := qq.1
   have hq2 : l.apps[i].bids.length ≤ 1000 := qq.2
   replace F := F.add hil |>.add hq1 |>.add hq2
   refine rK [1, 2, 3, 4, 5] ?_
   refine wD 7 [] [[], [0], [0, 1], [], [3], [1, 0, 2, 3, 4], [4, 3, 2, 1, 0], [5, 0, 1, 2, 3, 4, 6], [7, 6, 5, 4, 3, 2, 1, 0], [0, 1, 2, 3, 4, 5, 6, 7, 8]] ?_
   refine dB [([26, 27], [], []), ([26, 27], [true], [])] 5 2 ?_
   refine dC [26, 27] [true, true] [] [] ?_
   refine cd (CopyInts_imm _ (by omega)) ?_
   refine dB [([23, 24, 25], [false, false, false], []), ([23, 24, 25], [false, false, false, true], [])] 2 5 ?_
   refine dC [29] [true, true, true, true, true] [] [] ?_
   refine cd (CopyInts_imm _ (by omega)) ?_
   refine dB [([28], [true, true, true, true, true, false], [])] 0 7 ?_
   refine dD ?_
   refine oN 3 ?_
   refine oK [1, 2, 3, 4, 5] ?_
   refine rEw ?_
   refine hK3 _ ?_
   clear hK3 K3
   refine rEw ?_
   refine ⟨i + 1, lf ?_ ?_, v0, v0⟩
   ·
    exact v1
   ·
    try (simp [Fx.get F])
    all_goals (
     rw [List.take_succ_eq_append_getElem hil, List.map_append]; rfl
    )
  ·
   try simp at hc1
   replace F := F.add hc1
   refine W.exit ?_
   refine hK1 _ ?_
   clear hK2 K2 hK1 K1
   refine rK [2] ?_
   refine W.ret ?_
   refine er false [] [(20000, 48), (20001, 9000)] ?_
   have e : i = l.apps.length := by omega
   rw [e, List.take_of_length_le (Nat.le_refl _)]
   exact ⟨rfl, rfl⟩
theorem CopyLetting_imm (l : Lett) (h1 : l.stalls.length ≤ 1000) (h2 : l.apps.length ≤ 1000) (h3 : ∀ a ∈ l.apps, a.wishes.length ≤ 1000 ∧ a.bids.length ≤ 1000) : ACalls Try.prog 22 [letV l] [] (fun r o => r = letV l ∧ o = []) := ACalls.frzs [20000, 20001] (CopyLetting_ok l h1 h2 h3) (by simp; rfl) (by simp; rfl)
end Go.Sim
