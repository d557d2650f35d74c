/- The chapter's examples that every statement asks for. -/
import Derived.Test.YtholkejjmookfaaDoorVk
namespace Go.Sim.W6
open Go.Proofs Go.Plain
set_option maxRecDepth 100000
set_option linter.unusedSimpArgs false
set_option linter.unusedVariables false
attribute [-simp] List.map_set List.map_take List.map_drop
attribute [local simp] take_map' drop_map'
theorem row_check:checkT rowOw rowLk=0:=by kernel_rfl
theorem row_rings:ringsT rowOw rowLk=[[0,1],[2],[3]]:=by kernel_rfl
theorem row_swap:swapT rowOw rowLk=[(1,0),(0,0),(2,0),(3,0)]:=by kernel_rfl
theorem row_held1:heldT rowOw rowLk [(2,0),(1,0),(0,0),(3,0)]=0:=by kernel_rfl
theorem row_held2:heldT rowOw rowLk [(0,0),(1,0),(2,0),(3,0)]=0:=by kernel_rfl
theorem row_blocks:blocksT rowOw rowLk [(2,0),(1,0),(0,0),(3,0)]=[0,1]:=by kernel_rfl
theorem row_pleases:pleaseT rowOw rowLk [(0,0),(1,0),(2,0),(3,0)]=[0,1]:=by kernel_rfl
attribute [local simp] row_check row_rings row_swap row_held1 row_held2 row_blocks row_pleases
theorem wfT_of {x:Turn}(h1 : -100≤x.1∧x.1≤100) (h2 : -100≤x.2∧x.2≤100):WfT x:=⟨wfI (by omega) (by omega),wfI (by omega) (by omega)⟩
set_option maxHeartbeats 4000000 in
theorem awake_ok  : ACalls Tryd.prog 4 [] [] (fun r o=>r=B true∧o=[]):=by
 have F:=Fx.nil
 refine ent Tryd.func4 Tryd.ntmps4 Tryd.results4 ?_
 refine rK [] ?_
 refine W.seqR ?_
 refine oC [] ?_
 refine ct (W6.row_ok) ?_
 refine oC [] ?_
 refine ct (Rings_ok rowOw rowLk) ?_
 refine oN 5 ?_
 refine oK [1,2] ?_
 refine W.seqR ?_
 refine oC [] ?_
 refine ct (W6.row_ok) ?_
 refine oC [] ?_
 refine ct (Swap_ok rowOw rowLk) ?_
 refine oN 5 ?_
 refine oK [1,2,3,4] ?_
 refine W.seqR ?_
 refine oC [] ?_
 refine ct (W6.row_ok) ?_
 refine oN 1 ?_
 refine oC [] ?_
 refine ct (on_own 0 [2,1,0,3] (by simp)) ?_
 refine fz 176 ?_
 refine oC [] ?_
 refine ct (Blocks_ok rowOw rowLk [(2,0),(1,0),(0,0),(3,0)] (by intro _ x hx;simp at hx;rcases hx with rfl | rfl | rfl | rfl <;> exact wfT_of (by simp) (by simp))) ?_
 refine oN 5 ?_
 refine oK [1,2,3,4,5,6] ?_
 refine W.seqR ?_
 refine oC [] ?_
 refine ct (W6.row_ok) ?_
 refine oN 1 ?_
 refine oC [] ?_
 refine ct (on_own 0 [0,1,2,3] (by simp)) ?_
 refine fz 232 ?_
 refine oC [] ?_
 refine ct (Pleases_ok rowOw rowLk [(0,0),(1,0),(2,0),(3,0)] (by intro _ x hx;simp at hx;rcases hx with rfl | rfl | rfl | rfl <;> exact wfT_of (by simp) (by simp))) ?_
 refine oN 5 ?_
 refine oK [1,2,3,4,5,6,7,8] ?_
 refine W.seqR ?_
 refine oN 3 ?_
 refine gT ?_
 refine gT ?_
 refine oN 2 ?_
 refine gT ?_
 refine gT ?_
 refine oN 2 ?_
 refine gT ?_
 refine gT ?_
 refine oN 2 ?_
 refine gT ?_
 refine gT ?_
 refine gT ?_
 refine gT ?_
 refine gT ?_
 refine gC [] ?_
 refine ct (SameTables_ok [[0,1],[2],[3]] [[0,1],[2],[3]]) ?_
 refine oN 2 ?_
 refine gT ?_
 refine gT ?_
 refine gC [] ?_
 refine ct (on_own 0 [1,0,2,3] (by simp)) ?_
 refine gC [] ?_
 refine ct (SameTurns_ok [(1,0),(0,0),(2,0),(3,0)] [(1,0),(0,0),(2,0),(3,0)]) ?_
 refine oN 2 ?_
 refine gT ?_
 refine gT ?_
 refine gC [] ?_
 refine ct (SameInts_ok [0,1] [0,1]) ?_
 refine oN 2 ?_
 refine gT ?_
 refine gT ?_
 refine gC [] ?_
 refine ct (SameInts_ok [0,1] [0,1]) ?_
 refine oN 2 ?_
 refine oK [0] ?_
 refine W.ret ?_
 exact er0 false [] []
end Go.Sim.W6
