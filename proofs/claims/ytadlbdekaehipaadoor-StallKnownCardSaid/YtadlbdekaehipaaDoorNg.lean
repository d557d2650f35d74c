/- The draw and the ranks of any letting; lettings that are compared. -/
import Derived.Test.YtadlbdekaehipaaDoorNd
import Derived.Test.YtadlbdekaehipaaDoorLv
namespace Go.Sim
set_option maxHeartbeats 4000000
open Go.Proofs
set_option maxRecDepth 100000
set_option linter.unusedSimpArgs false
set_option linter.unusedVariables false
attribute [-simp] List.map_set List.map_take List.map_drop
def drawA (l:Lett):List Int:=if checkL l=0 then drawL l.apps else []
theorem Draw_err (l:Lett) (hn:¬checkL l=0):ACalls Tryd.prog 7 [letV l] [] (fun r o=>r = .tup [ints [],I (checkL l)]∧o=[]):=by
 have F:=Fx.nil
 replace F:=F.add hn
 refine ent Tryd.func7 Tryd.ntmps7 Tryd.results7 ?_
 refine rK [1] ?_
 refine W.seqk fun K1 hK1=>?_
 refine W.seqR ?_
 refine oN 1 ?_
 refine oC [] ?_
 refine ct (Check_ok _) ?_
 refine oN 1 ?_
 refine oK [1,4] ?_
 refine rK [1,4,8] ?_
 refine cT ?_
 refine rK [2,3] ?_
 refine W.weaken (Le.immNil (t:=2) (by first | rfl | simp)) ?_
 refine W.ret ?_
 refine tr ?_
 clear hK1 K1
 refine er false [] [] ?_
 exact ⟨rfl,rfl⟩
theorem DrawA_ok (l:Lett):ACalls Tryd.prog 7 [letV l] [] (fun r o=>r = .tup [ints (drawA l),I (checkL l)]∧o=[]):=by
  by_cases h:checkL l=0
  · have:=Draw_ok l (checkL_zero.1 h)
    rw [drawA,if_pos h,h];exact this
  · rw [drawA,if_neg h];exact Draw_err l h
def rankE (l:Lett) (n:Int):Int:=if ¬checkL l=0 then checkL l else if 0≤n∧n≤(l.stalls.length:Int)-1 then 0 else 3
def rankA (l:Lett) (n:Int):List Int:=if rankE l n=0 then rankL l n.toNat else []
theorem Ranks_e1 (l:Lett) (n:Int) (hn:¬checkL l=0):ACalls Tryd.prog 9 [letV l,I n] [] (fun r o=>r = .tup [ints [],I (checkL l)]∧o=[]):=by
 have F:=Fx.nil
 replace F:=F.add hn
 refine ent Tryd.func9 Tryd.ntmps9 Tryd.results9 ?_
 refine rK [1,2] ?_
 refine W.seqk fun K1 hK1=>?_
 refine W.seqR ?_
 refine oN 1 ?_
 refine oC [] ?_
 refine ct (Check_ok _) ?_
 refine oN 1 ?_
 refine oK [1,2,6] ?_
 refine rK [1,2,6,12] ?_
 refine cT ?_
 refine rK [4,5] ?_
 refine W.weaken (Le.immNil (t:=4) (by first | rfl | simp)) ?_
 refine W.ret ?_
 refine tr ?_
 clear hK1 K1
 refine er false [] [] ?_
 exact ⟨rfl,rfl⟩
theorem Ranks_e2 (l:Lett) (n:Int) (hv:ValidL l) (hn:¬(0≤n∧n≤(l.stalls.length:Int)-1)):ACalls Tryd.prog 9 [letV l,I n] [] (fun r o=>r = .tup [ints [],I 3]∧o=[]):=by
 have F:=Fx.nil
 refine ent Tryd.func9 Tryd.ntmps9 Tryd.results9 ?_
 have hck:checkL l=0:=checkL_zero.2 hv
 have hs8:=hv.s8
 have hw1:IntKind.i64.wrap ((l.stalls.length:Int)-1)=(l.stalls.length:Int)-1:=wrap_i64 (by omega) (by omega)
 have hnn:(decide (0≤n)&&decide (n≤(l.stalls.length:Int)-1))=false:=by rw [Bool.and_eq_false_iff,decide_eq_false_iff_not,decide_eq_false_iff_not];omega
 replace F:=F.add hck |>.add hs8 |>.add hw1 |>.add hnn
 refine rK [1,2] ?_
 refine W.seqk fun K1 hK1=>?_
 refine W.seqR ?_
 refine oN 1 ?_
 refine oC [] ?_
 refine ct (Check_ok _) ?_
 refine oN 1 ?_
 refine oK [1,2,6] ?_
 refine rK [1,2,6,12] ?_
 refine cF ?_
 refine W.skip ?_
 refine hK1 _ ?_
 clear hK1 K1
 refine W.seqk fun K2 hK2=>?_
 refine W.seqR ?_
 refine oN 5 ?_
 refine oC [] ?_
 refine ct (in_ok _ _ _) ?_
 refine oN 1 ?_
 refine oK [1,2,20] ?_
 refine cT ?_
 refine rK [4,5] ?_
 refine W.weaken (Le.immNil (t:=4) (by first | rfl | simp)) ?_
 refine W.ret ?_
 refine tr ?_
 clear hK2 K2
 refine er false [] [] ?_
 exact ⟨rfl,rfl⟩
theorem RanksA_of {f:FuncId}(h0:∀l n,¬checkL l=0→ACalls Tryd.prog f [letV l,I n] [] (fun r o=>r = .tup [ints [],I (checkL l)]∧o=[])) (h1:∀l n,ValidL l→¬(0≤n∧n≤(l.stalls.length:Int)-1)→ACalls Tryd.prog f [letV l,I n] [] (fun r o=>r = .tup [ints [],I 3]∧o=[]))
    (h2:∀l,ValidL l→∀s:Nat,s<l.stalls.length→ACalls Tryd.prog f [letV l,I s] [] (fun r o=>r = .tup [ints (rankL l s),I 0]∧o=[])) (l:Lett) (n:Int):ACalls Tryd.prog f [letV l,I n] [] (fun r o=>r = .tup [ints (rankA l n),I (rankE l n)]∧o=[]):=by
  by_cases hc:checkL l=0
  · by_cases hn:0≤n∧n≤(l.stalls.length:Int)-1
    · have e:rankE l n=0:=by rw [rankE,if_neg (by simp [hc]),if_pos hn]
      obtain ⟨s,rfl⟩:∃s:Nat,n=(s:Int):=⟨n.toNat,by omega⟩
      rw [rankA,if_pos e,e,Int.toNat_natCast]
      exact h2 l (checkL_zero.1 hc) s (by omega)
    · have e:rankE l n=3:=by rw [rankE,if_neg (by simp [hc]),if_neg hn]
      rw [rankA,if_neg (by rw [e];decide),e]
      exact h1 l n (checkL_zero.1 hc) hn
  · have e:rankE l n=checkL l:=by rw [rankE,if_pos hc]
    rw [rankA,if_neg (by rw [e];exact hc),e]
    exact h0 l n hc
theorem RanksA_ok (l:Lett) (n:Int):ACalls Tryd.prog 9 [letV l,I n] [] (fun r o=>r = .tup [ints (rankA l n),I (rankE l n)]∧o=[]):=RanksA_of (f:=9) Ranks_e1 (fun l n hv hn=>Ranks_e2 l n hv hn) (fun l hv s hs=>Ranks_ok l hv s hs) l n
end Go.Sim
