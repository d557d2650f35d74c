/- SwapRead: the law. -/
import Derived.Test.YtholkejjmookfaaDoorIj
import Derived.Test.YtholkejjmookfaaDoorIl
namespace Go.Sim
open Go.Proofs W6
set_option maxRecDepth 100000
set_option linter.unusedSimpArgs false
set_option linter.unusedVariables false
attribute [-simp] List.map_set List.map_take List.map_drop
set_option maxHeartbeats 4000000 in
theorem SwapRead_ok (ob:Lb) (nums:List Int) (text:List UInt8):ACalls Tryd.prog 3 [ints nums,txtA text] [(10900,tabO ob)] (fun r o=>r=B true∧o=[(10900,tabO ob)]):=by
 have F:=Fx.nil
 refine ent Tryd.func3 Tryd.ntmps3 Tryd.results3 ?_
 refine rK [0,1] ?_
 refine W.seqk fun K1 hK1=>?_
 by_cases h15:1500<text.length
 ·
  replace F:=F.add h15
  have hi15:(1500:Int)<text.length:=by omega
  replace F:=F.add hi15
  refine rK [0,1,18] ?_
  refine cT ?_
  refine W.seqR ?_
  refine oC [] ?_
  refine ct (W6.awake_ok) ?_
  refine oN 1 ?_
  refine oK [4] ?_
  refine W.ret ?_
  refine tr ?_
  clear hK1 K1
  exact er0 false [] [(10900,10900)]
 ·
  replace F:=F.add h15
  have hi15:¬(1500:Int)<text.length:=by omega
  replace F:=F.add hi15
  refine rK [0,1,18] ?_
  refine cF ?_
  refine W.skip ?_
  refine hK1 _ ?_
  clear hK1 K1
  refine W.seqR ?_
  refine oN 1 ?_
  refine oC [] ?_
  refine ct (W6.DieOf_ok _) ?_
  refine oC [(10000,168)] ?_
  refine CallT.mkE (TradeOf_imm _ 8 (by omega)) (fun z22 hz22=>⟨(by simp [h15,hi15]), ?_⟩)
  obtain ⟨⟨zo,zl,zf⟩,hz⟩:∃z:List Turn×List (List Turn)×Int,z=z22:=⟨z22,rfl⟩
  subst hz
  have qz:GoodTrade zo zl 8:=hz22
  refine WOps.norm (by simp [h15,hi15];rfl) ?_
  refine oN 2 ?_
  refine oK [1,5] ?_
  refine W.seqR ?_
  refine oN 1 ?_
  refine oC [(10900,10900)] ?_
  refine ct (Write_g ob qz) ?_
  refine oN 5 ?_
  refine oK [1,5,6,7] ?_
  refine W.seqR ?_
  refine oN 1 ?_
  refine oC [(10900,10900)] ?_
  refine ct (Read_g ob qz) ?_
  refine oN 8 ?_
  refine oK [1,5,7,8,9,10] ?_
  refine W.seqk fun K2 hK2=>?_
  refine W.seqR ?_
  refine oN 3 ?_
  refine gT ?_
  refine gT ?_
  refine oN 2 ?_
  refine gT ?_
  refine gT ?_
  refine oN 2 ?_
  refine gT ?_
  refine gT ?_
  refine gC [] ?_
  refine ct (W6.SameTrades_ok zo zo zl zl) ?_
  refine gT ?_
  refine oN 1 ?_
  refine oK [1,49] ?_
  refine cF ?_
  refine W.skip ?_
  refine hK2 _ ?_
  clear hK2 K2
  obtain ⟨xo,xl,xr,xe,qx⟩:∃xo xl xr xe,rd6 text=(xo,xl,xr,xe):=⟨(rd6 text).1,(rd6 text).2.1,(rd6 text).2.2.1,(rd6 text).2.2.2,rfl⟩
  refine W.seqR ?_
  refine oN 1 ?_
  refine oC [(10900,10900)] ?_
  refine ct (Read_p ob qx) ?_
  refine oN 8 ?_
  refine oK [1,11,13] ?_
  refine W.seqk fun K3 hK3=>?_
  by_cases hxe:xe=0
  ·
   replace F:=F.add hxe
   subst hxe
   have hxe:True:=trivial
   replace F:=F.add hxe
   refine rK [1,11,57] ?_
   refine cF ?_
   refine W.skip ?_
   refine hK3 _ ?_
   clear hK3 K3
   refine W.seqR ?_
   refine oN 1 ?_
   refine oC [(10900,10900)] ?_
   refine ct (Write_p ob qx) ?_
   refine oN 5 ?_
   refine oK [1,14,15] ?_
   refine W.seqR ?_
   refine oN 3 ?_
   refine gT ?_
   refine gT ?_
   refine gT ?_
   refine oN 2 ?_
   refine gC [] ?_
   refine ct (W6.awake_ok) ?_
   refine oN 2 ?_
   refine oK [4] ?_
   refine W.ret ?_
   exact er0 false [] [(10900,10900)]
  ·
   replace F:=F.add hxe
   have hxb:(xe==0)=false:=by rw [beq_eq_false_iff_ne];exact hxe
   obtain ⟨q1,q2⟩:=rd6_no qx hxe
   subst q1;subst q2
   replace F:=F.add hxb
   refine rK [1,11,57] ?_
   refine cT ?_
   refine W.seqR ?_
   refine oN 5 ?_
   refine gC [] ?_
   refine ct (W6.awake_ok) ?_
   refine oN 2 ?_
   refine oK [4] ?_
   refine W.ret ?_
   refine tr ?_
   clear hK3 K3
   exact er0 false [] [(10900,10900)]
end Go.Sim
