/- Some of the chapter's examples hold. -/
import Derived.Test.YtadlbdekaehipaaDoorLr
import Derived.Test.YtadlbdekaehipaaDoorLm
import Derived.Test.YtadlbdekaehipaaDoorPg
namespace Go.Sim
set_option maxHeartbeats 4000000
open Go.Proofs
set_option maxRecDepth 100000
set_option linter.unusedSimpArgs false
set_option linter.unusedVariables false
attribute [-simp] List.map_set List.map_take List.map_drop
theorem hall_ok  : ACalls Tryd.prog 4 [] [] (fun r o=>r=letV hallL∧o=[]):=by
 have F:=Fx.nil
 refine ent Tryd.func4 Tryd.ntmps4 Tryd.results4 ?_
 refine rK [0] ?_
 refine W.seqR ?_
 refine oN 16 ?_
 refine fz 40 ?_
 refine fz 48 ?_
 refine fz 64 ?_
 refine fz 72 ?_
 refine fz 88 ?_
 refine fz 96 ?_
 refine fz 112 ?_
 refine fz 120 ?_
 refine oN 3 ?_
 refine oK [0] ?_
 refine W.ret ?_
 refine er false [32,136] [] ?_
 exact ⟨rfl,rfl⟩
theorem awake_ok  : ACalls Tryd.prog 5 [] [] (fun r o=>r=B true∧o=[]):=by
 have F:=Fx.nil
 refine ent Tryd.func5 Tryd.ntmps5 Tryd.results5 ?_
 have hdr:=hall_draw
 have hen:=hall_envy
 replace F:=F.add hdr |>.add hen
 refine rK [] ?_
 refine W.seqR ?_
 refine oC [] ?_
 refine ct (hall_ok) ?_
 refine oC [] ?_
 refine ct (Draw_ok hallL hall_valid) ?_
 refine oN 5 ?_
 refine oK [1,2] ?_
 refine W.seqR ?_
 refine oC [] ?_
 refine ct (hall_ok) ?_
 refine oC [] ?_
 refine CallT.mkE (Let_ok hallL hall_valid) (fun z14 hz14=>⟨(by simp [hdr,hen]), ?_⟩)
 have hz:=bestL_one hall_valid hz14 hall_best
 replace F:=F.add hz
 refine WOps.norm (by simp [hdr,hen,hz];rfl) ?_
 refine oN 5 ?_
 refine oK [1,2,3,4] ?_
 refine W.seqR ?_
 refine oC [] ?_
 refine ct (hall_ok) ?_
 refine oN 1 ?_
 refine fz 152 ?_
 refine oC [] ?_
 refine ct (Envies_ok hallL hall_valid [0,1,2] hall_hold) ?_
 refine oN 5 ?_
 refine oK [1,2,3,4,5,6] ?_
 refine W.seqR ?_
 refine oN 3 ?_
 refine gT ?_
 refine gT ?_
 refine oN 2 ?_
 refine gT ?_
 refine gT ?_
 refine oN 2 ?_
 refine gT ?_
 refine gT ?_
 refine gC [] ?_
 refine ct (SameInts_ok [3,0,1,2] [3,0,1,2]) ?_
 refine oN 2 ?_
 refine gT ?_
 refine gT ?_
 refine gC [] ?_
 refine ct (SameInts_ok [3,1,2] [3,1,2]) ?_
 refine oN 2 ?_
 refine gT ?_
 refine gT ?_
 refine gT ?_
 refine gC [] ?_
 refine ct (SameEnvies_ok [(3,0)] [(3,0)]) ?_
 refine oN 2 ?_
 refine oK [0] ?_
 refine W.ret ?_
 exact er0 false [] []
end Go.Sim
