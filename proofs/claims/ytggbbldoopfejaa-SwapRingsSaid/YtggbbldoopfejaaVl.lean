/- The chapter's examples that every statement asks for. -/
import Derived.Test.YtggbbldoopfejaaVk
namespace Go.Sim
open Go.Proofs Go.Plain
set_option maxRecDepth 100000
set_option linter.unusedSimpArgs false
attribute [-simp] List.map_set List.map_take List.map_drop
attribute [local simp] take_map' drop_map'
theorem row_check : checkT rowOw rowLk = 0 := by kernel_rfl
theorem row_rings : ringsT rowOw rowLk = [[0, 1], [2], [3]] := by kernel_rfl
theorem row_swap : swapT rowOw rowLk = [(1, 0), (0, 0), (2, 0), (3, 0)] := by kernel_rfl
theorem row_held1 : heldT rowOw rowLk [(2, 0), (1, 0), (0, 0), (3, 0)] = 0 := by kernel_rfl
theorem row_held2 : heldT rowOw rowLk [(0, 0), (1, 0), (2, 0), (3, 0)] = 0 := by kernel_rfl
theorem row_blocks : blocksT rowOw rowLk [(2, 0), (1, 0), (0, 0), (3, 0)] = [0, 1] := by kernel_rfl
theorem row_pleases : pleaseT rowOw rowLk [(0, 0), (1, 0), (2, 0), (3, 0)] = [0, 1] := by kernel_rfl
attribute [local simp] row_check row_rings row_swap row_held1 row_held2 row_blocks row_pleases
theorem wfT_of {x : Turn} (h1 : -100 ≤ x.1 ∧ x.1 ≤ 100) (h2 : -100 ≤ x.2 ∧ x.2 ≤ 100) : WfT x := ⟨wfI (by omega) (by omega), wfI (by omega) (by omega)⟩
set_option maxHeartbeats 4000000 in
theorem awake_ok  : ACalls Try.prog 12 [] [] (fun r o => r = B true ∧ o = []) := by
  refine ACalls.enter hΓ Try.func12 rfl (by kernel_rfl) Try.ntmps12 (by rw [Try.results12]) (by simp) (by simp; rfl) ?_
  refine W.regK hΓ [36, 37, 40, 41, 44, 45, 48, 49, 50, 51, 52, 53, 56, 57, 58, 59, 62, 63, 64, 67, 68, 69] (by simp; rfl) ?_
  refine W.seqR ?_
  refine WOps.call rfl rfl rfl rfl [] rfl rfl (by decide) (by simp; first | rfl | exact ⟨rfl, rfl⟩) (by simp; rfl) ?_
  refine CallT.mk (row_ok) (by simp) ?_
  refine WOps.norm (by simp; rfl) ?_
  refine WOps.call rfl rfl rfl rfl [] rfl rfl (by decide) (by simp; first | rfl | exact ⟨rfl, rfl⟩) (by simp; rfl) ?_
  refine CallT.mk (Rings_ok rowOw rowLk) (by simp) ?_
  refine WOps.norm (by simp; rfl) ?_
  refine WOps.n hΓ 5 (by simp; first | rfl | exact ⟨rfl, rfl⟩) rfl ?_
  refine WOps.endK ?_
  refine W.keep [1, 2, 36, 37, 40, 41, 44, 45, 48, 49, 50, 51, 52, 53, 56, 57, 58, 59, 62, 63, 64, 67, 68, 69] (by simp; rfl) ?_
  refine W.seqR ?_
  refine WOps.call rfl rfl rfl rfl [] rfl rfl (by decide) (by simp; first | rfl | exact ⟨rfl, rfl⟩) (by simp; rfl) ?_
  refine CallT.mk (row_ok) (by simp) ?_
  refine WOps.norm (by simp; rfl) ?_
  refine WOps.call rfl rfl rfl rfl [] rfl rfl (by decide) (by simp; first | rfl | exact ⟨rfl, rfl⟩) (by simp; rfl) ?_
  refine CallT.mk (Swap_ok rowOw rowLk) (by simp) ?_
  refine WOps.norm (by simp; rfl) ?_
  refine WOps.n hΓ 5 (by simp; first | rfl | exact ⟨rfl, rfl⟩) rfl ?_
  refine WOps.endK ?_
  refine W.keep [1, 2, 3, 4, 36, 37, 40, 41, 44, 45, 48, 49, 50, 51, 52, 53, 56, 57, 58, 59, 62, 63, 64, 67, 68, 69] (by simp; rfl) ?_
  refine W.seqR ?_
  refine WOps.call rfl rfl rfl rfl [] rfl rfl (by decide) (by simp; first | rfl | exact ⟨rfl, rfl⟩) (by simp; rfl) ?_
  refine CallT.mk (row_ok) (by simp) ?_
  refine WOps.norm (by simp; rfl) ?_
  refine WOps.n hΓ 1 (by simp; first | rfl | exact ⟨rfl, rfl⟩) rfl ?_
  refine WOps.call rfl rfl rfl rfl [] rfl rfl (by decide) (by simp; first | rfl | exact ⟨rfl, rfl⟩) (by simp; rfl) ?_
  refine CallT.mk (on_own 0 [2, 1, 0, 3] (by simp)) (by simp) ?_
  refine WOps.norm (by simp; rfl) ?_
  refine WOps.le (Le.freeze (id := 176) (by simp; rfl)) rfl rfl ?_
  refine WOps.call rfl rfl rfl rfl [] rfl rfl (by decide) (by simp; first | rfl | exact ⟨rfl, rfl⟩) (by simp; rfl) ?_
  refine CallT.mk (Blocks_ok rowOw rowLk [(2, 0), (1, 0), (0, 0), (3, 0)] (by intro _ x hx; simp at hx; rcases hx with rfl | rfl | rfl | rfl <;> exact wfT_of (by simp) (by simp))) (by simp) ?_
  refine WOps.norm (by simp; rfl) ?_
  refine WOps.n hΓ 5 (by simp; first | rfl | exact ⟨rfl, rfl⟩) rfl ?_
  refine WOps.endK ?_
  refine W.keep [1, 2, 3, 4, 5, 6, 36, 37, 40, 41, 44, 45, 48, 49, 50, 51, 52, 53, 56, 57, 58, 59, 62, 63, 64, 67, 68, 69] (by simp; rfl) ?_
  refine W.seqR ?_
  refine WOps.call rfl rfl rfl rfl [] rfl rfl (by decide) (by simp; first | rfl | exact ⟨rfl, rfl⟩) (by simp; rfl) ?_
  refine CallT.mk (row_ok) (by simp) ?_
  refine WOps.norm (by simp; rfl) ?_
  refine WOps.n hΓ 1 (by simp; first | rfl | exact ⟨rfl, rfl⟩) rfl ?_
  refine WOps.call rfl rfl rfl rfl [] rfl rfl (by decide) (by simp; first | rfl | exact ⟨rfl, rfl⟩) (by simp; rfl) ?_
  refine CallT.mk (on_own 0 [0, 1, 2, 3] (by simp)) (by simp) ?_
  refine WOps.norm (by simp; rfl) ?_
  refine WOps.le (Le.freeze (id := 232) (by simp; rfl)) rfl rfl ?_
  refine WOps.call rfl rfl rfl rfl [] rfl rfl (by decide) (by simp; first | rfl | exact ⟨rfl, rfl⟩) (by simp; rfl) ?_
  refine CallT.mk (Pleases_ok rowOw rowLk [(0, 0), (1, 0), (2, 0), (3, 0)] (by intro _ x hx; simp at hx; rcases hx with rfl | rfl | rfl | rfl <;> exact wfT_of (by simp) (by simp))) (by simp) ?_
  refine WOps.norm (by simp; rfl) ?_
  refine WOps.n hΓ 5 (by simp; first | rfl | exact ⟨rfl, rfl⟩) rfl ?_
  refine WOps.endK ?_
  refine W.keep [1, 2, 3, 4, 5, 6, 7, 8, 36, 37, 40, 41, 44, 45, 48, 49, 50, 51, 52, 53, 56, 57, 58, 59, 62, 63, 64, 67, 68, 69] (by simp; rfl) ?_
  refine W.seqR ?_
  refine WOps.n hΓ 3 (by simp; first | rfl | exact ⟨rfl, rfl⟩) rfl ?_
  refine WOps.gd rfl rfl (by simp; first | rfl | exact (Bool.not_not _).symm) ?_
  (with_reducible refine WG.isT ?_); refine WGt.mk hΓ rfl (by simp; first | rfl | exact ⟨rfl, rfl⟩) (by simp; rfl) ?_
  refine WOps.gd rfl rfl (by simp; first | rfl | exact (Bool.not_not _).symm) ?_
  (with_reducible refine WG.isT ?_); refine WGt.mk hΓ rfl (by simp; first | rfl | exact ⟨rfl, rfl⟩) (by simp; rfl) ?_
  refine WOps.n hΓ 2 (by simp; first | rfl | exact ⟨rfl, rfl⟩) rfl ?_
  refine WOps.gd rfl rfl (by simp; first | rfl | exact (Bool.not_not _).symm) ?_
  (with_reducible refine WG.isT ?_); refine WGt.mk hΓ rfl (by simp; first | rfl | exact ⟨rfl, rfl⟩) (by simp; rfl) ?_
  refine WOps.gd rfl rfl (by simp; first | rfl | exact (Bool.not_not _).symm) ?_
  (with_reducible refine WG.isT ?_); refine WGt.mk hΓ rfl (by simp; first | rfl | exact ⟨rfl, rfl⟩) (by simp; rfl) ?_
  refine WOps.n hΓ 2 (by simp; first | rfl | exact ⟨rfl, rfl⟩) rfl ?_
  refine WOps.gd rfl rfl (by simp; first | rfl | exact (Bool.not_not _).symm) ?_
  (with_reducible refine WG.isT ?_); refine WGt.mk hΓ rfl (by simp; first | rfl | exact ⟨rfl, rfl⟩) (by simp; rfl) ?_
  refine WOps.gd rfl rfl (by simp; first | rfl | exact (Bool.not_not _).symm) ?_
  (with_reducible refine WG.isT ?_); refine WGt.mk hΓ rfl (by simp; first | rfl | exact ⟨rfl, rfl⟩) (by simp; rfl) ?_
  refine WOps.n hΓ 2 (by simp; first | rfl | exact ⟨rfl, rfl⟩) rfl ?_
  refine WOps.gd rfl rfl (by simp; first | rfl | exact (Bool.not_not _).symm) ?_
  (with_reducible refine WG.isT ?_); refine WGt.mk hΓ rfl (by simp; first | rfl | exact ⟨rfl, rfl⟩) (by simp; rfl) ?_
  refine WOps.gd rfl rfl (by simp; first | rfl | exact (Bool.not_not _).symm) ?_
  (with_reducible refine WG.isT ?_); refine WGt.mk hΓ rfl (by simp; first | rfl | exact ⟨rfl, rfl⟩) (by simp; rfl) ?_
  refine WOps.gd rfl rfl (by simp; first | rfl | exact (Bool.not_not _).symm) ?_
  (with_reducible refine WG.isT ?_); refine WGt.mk hΓ rfl (by simp; first | rfl | exact ⟨rfl, rfl⟩) (by simp; rfl) ?_
  refine WOps.gd rfl rfl (by simp; first | rfl | exact (Bool.not_not _).symm) ?_
  (with_reducible refine WG.isT ?_); refine WGt.mk hΓ rfl (by simp; first | rfl | exact ⟨rfl, rfl⟩) (by simp; rfl) ?_
  refine WOps.gd rfl rfl (by simp; first | rfl | exact (Bool.not_not _).symm) ?_
  (with_reducible refine WG.isT ?_); refine WGt.mk hΓ rfl (by simp; first | rfl | exact ⟨rfl, rfl⟩) (by simp; rfl) ?_
  refine WOps.gd rfl rfl (by simp; first | rfl | exact (Bool.not_not _).symm) ?_
  (with_reducible refine WG.isT ?_)
  refine WGt.call rfl rfl rfl [] rfl rfl (by decide) (by simp; first | rfl | exact ⟨rfl, rfl⟩) (by simp; rfl) ?_
  refine CallT.mk (SameTables_ok [[0, 1], [2], [3]] [[0, 1], [2], [3]]) (by simp) ?_
  refine WOps.norm (by simp; rfl) ?_
  refine WOps.n hΓ 2 (by simp; first | rfl | exact ⟨rfl, rfl⟩) rfl ?_
  refine WOps.gd rfl rfl (by simp; first | rfl | exact (Bool.not_not _).symm) ?_
  (with_reducible refine WG.isT ?_); refine WGt.mk hΓ rfl (by simp; first | rfl | exact ⟨rfl, rfl⟩) (by simp; rfl) ?_
  refine WOps.gd rfl rfl (by simp; first | rfl | exact (Bool.not_not _).symm) ?_
  (with_reducible refine WG.isT ?_); refine WGt.mk hΓ rfl (by simp; first | rfl | exact ⟨rfl, rfl⟩) (by simp; rfl) ?_
  refine WOps.gd rfl rfl (by simp; first | rfl | exact (Bool.not_not _).symm) ?_
  (with_reducible refine WG.isT ?_)
  refine WGt.call rfl rfl rfl [] rfl rfl (by decide) (by simp; first | rfl | exact ⟨rfl, rfl⟩) (by simp; rfl) ?_
  refine CallT.mk (on_own 0 [1, 0, 2, 3] (by simp)) (by simp) ?_
  refine WOps.norm (by simp; rfl) ?_
  refine WOps.gd rfl rfl (by simp; first | rfl | exact (Bool.not_not _).symm) ?_
  (with_reducible refine WG.isT ?_)
  refine WGt.call rfl rfl rfl [] rfl rfl (by decide) (by simp; first | rfl | exact ⟨rfl, rfl⟩) (by simp; rfl) ?_
  refine CallT.mk (SameTurns_ok [(1, 0), (0, 0), (2, 0), (3, 0)] [(1, 0), (0, 0), (2, 0), (3, 0)]) (by simp) ?_
  refine WOps.norm (by simp; rfl) ?_
  refine WOps.n hΓ 2 (by simp; first | rfl | exact ⟨rfl, rfl⟩) rfl ?_
  refine WOps.gd rfl rfl (by simp; first | rfl | exact (Bool.not_not _).symm) ?_
  (with_reducible refine WG.isT ?_); refine WGt.mk hΓ rfl (by simp; first | rfl | exact ⟨rfl, rfl⟩) (by simp; rfl) ?_
  refine WOps.gd rfl rfl (by simp; first | rfl | exact (Bool.not_not _).symm) ?_
  (with_reducible refine WG.isT ?_); refine WGt.mk hΓ rfl (by simp; first | rfl | exact ⟨rfl, rfl⟩) (by simp; rfl) ?_
  refine WOps.gd rfl rfl (by simp; first | rfl | exact (Bool.not_not _).symm) ?_
  (with_reducible refine WG.isT ?_)
  refine WGt.call rfl rfl rfl [] rfl rfl (by decide) (by simp; first | rfl | exact ⟨rfl, rfl⟩) (by simp; rfl) ?_
  refine CallT.mk (SameInts_ok [0, 1] [0, 1]) (by simp) ?_
  refine WOps.norm (by simp; rfl) ?_
  refine WOps.n hΓ 2 (by simp; first | rfl | exact ⟨rfl, rfl⟩) rfl ?_
  refine WOps.gd rfl rfl (by simp; first | rfl | exact (Bool.not_not _).symm) ?_
  (with_reducible refine WG.isT ?_); refine WGt.mk hΓ rfl (by simp; first | rfl | exact ⟨rfl, rfl⟩) (by simp; rfl) ?_
  refine WOps.gd rfl rfl (by simp; first | rfl | exact (Bool.not_not _).symm) ?_
  (with_reducible refine WG.isT ?_); refine WGt.mk hΓ rfl (by simp; first | rfl | exact ⟨rfl, rfl⟩) (by simp; rfl) ?_
  refine WOps.gd rfl rfl (by simp; first | rfl | exact (Bool.not_not _).symm) ?_
  (with_reducible refine WG.isT ?_)
  refine WGt.call rfl rfl rfl [] rfl rfl (by decide) (by simp; first | rfl | exact ⟨rfl, rfl⟩) (by simp; rfl) ?_
  refine CallT.mk (SameInts_ok [0, 1] [0, 1]) (by simp) ?_
  refine WOps.norm (by simp; rfl) ?_
  refine WOps.n hΓ 2 (by simp; first | rfl | exact ⟨rfl, rfl⟩) rfl ?_
  refine WOps.endK ?_
  refine W.keep [0] (by simp; rfl) ?_
  refine W.ret ?_
  refine EndQ.r false [] [] (by simp; first | rfl | exact ⟨rfl, rfl⟩) ?_
  -- 1 end
  first | done | omega | (simp_all; done) | (simp_all; omega)
end Go.Sim
