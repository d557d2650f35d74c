/- Benches: what the reference's Check says. -/
import Derived.Test.YtojjfnhjmfokhaaQa
namespace Go.Sim
set_option maxHeartbeats 4000000
open Go.Proofs
set_option maxRecDepth 100000
set_option linter.unusedSimpArgs false
set_option linter.unusedVariables false
attribute [-simp] List.map_set List.map_take List.map_drop
attribute [simp] spn_eta
theorem within_ok (n a b:Int):ACalls Try.prog 55 [I n,I a,I b] [] (fun r o=>r=B (inB n a b)∧o=[]):=by
 have F:=Fx.nil
 refine ent Try.func55 Try.ntmps55 Try.results55 ?_
 refine rK [0,1,2] ?_
 refine W.seqR ?_
 refine oN 4 ?_
 refine gX ?_
 refine gX ?_
 refine gX ?_
 refine oN 2 ?_
 refine oK [6] ?_
 refine W.ret ?_
 refine er false [] [] ?_
 refine ⟨?_,rfl⟩
 unfold inB
 by_cases h1:a≤n<;>by_cases h2:n≤b<;>simp [h1,h2]
theorem rcheckSpan_ok (x:Spn) (m:Int) (hm1:0≤m) (hm2:m≤100000):ACalls Try.prog 54 [spnV x,I m] [] (fun r o=>r=I (spanC x (-m) m)∧o=[]):=by
 have F:=Fx.nil
 replace F:=F.add hm1 |>.add hm2
 refine ent Try.func54 Try.ntmps54 Try.results54 ?_
 refine rK [1,2] ?_
 refine W.seqk fun K1 hK1=>?_
 by_cases hs1:inB x.lo (-m) m=true
 ·
  replace F:=F.add hs1
  by_cases hs2:inB x.hi (-m) m=true
  ·
   replace F:=F.add hs2
   refine W.seqR ?_
   refine oNw 5 ?_
   refine oC [] ?_
   refine ct (within_ok _ _ _) ?_
   refine oN 2 ?_
   refine gT ?_
   refine gT ?_
   refine gT ?_
   refine gTw ?_
   refine gT ?_
   refine gC [] ?_
   refine ct (within_ok _ _ _) ?_
   refine gT ?_
   refine oN 1 ?_
   refine oK [2,20] ?_
   refine cF ?_
   refine W.skip ?_
   refine hK1 _ ?_
   clear hK1 K1
   refine W.seqk fun K2 hK2=>?_
   refine rK [25] ?_
   refine it (fun hc2=>?_) (fun hc2=>?_)
   ·
    try simp at hc2
    replace F:=F.add hc2
    refine rK [4] ?_
    refine W.ret ?_
    refine tr ?_
    clear hK2 K2
    refine er false [] [] ?_
    simp_all [spanC]
   ·
    try simp at hc2
    replace F:=F.add hc2
    refine W.skip ?_
    refine hK2 _ ?_
    clear hK2 K2
    refine rK [4] ?_
    refine W.ret ?_
    refine er false [] [] ?_
    simp_all [spanC]
  ·
   replace F:=F.add hs2
   refine W.seqR ?_
   refine oNw 5 ?_
   refine oC [] ?_
   refine ct (within_ok _ _ _) ?_
   refine oN 2 ?_
   refine gT ?_
   refine gT ?_
   refine gT ?_
   refine gTw ?_
   refine gT ?_
   refine gC [] ?_
   refine ct (within_ok _ _ _) ?_
   refine gT ?_
   refine oN 1 ?_
   refine oK [2,20] ?_
   refine cT ?_
   refine rK [4] ?_
   refine W.ret ?_
   refine tr ?_
   clear hK1 K1
   refine er false [] [] ?_
   simp_all [spanC]
 ·
  replace F:=F.add hs1
  refine W.seqR ?_
  refine oNw 5 ?_
  refine oC [] ?_
  refine ct (within_ok _ _ _) ?_
  refine oN 2 ?_
  refine gF ?_
  refine gF ?_
  refine gF ?_
  refine gF ?_
  refine gF ?_
  refine gF ?_
  refine gF ?_
  refine oN 1 ?_
  refine oK [2,20] ?_
  refine cT ?_
  refine rK [4] ?_
  refine W.ret ?_
  refine tr ?_
  clear hK1 K1
  refine er false [] [] ?_
  simp_all [spanC]
end Go.Sim
