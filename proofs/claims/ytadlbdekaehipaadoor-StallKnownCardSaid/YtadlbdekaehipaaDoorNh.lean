/- Envies and rents of any letting and holders, and the best holders of any letting. -/
import Derived.Test.YtadlbdekaehipaaDoorNg
import Derived.Test.YtadlbdekaehipaaDoorNb
import Derived.Test.YtadlbdekaehipaaDoorNd
namespace Go.Sim
set_option maxHeartbeats 4000000
open Go.Proofs
set_option maxRecDepth 100000
set_option linter.unusedSimpArgs false
set_option linter.unusedVariables false
attribute [-simp] List.map_set List.map_take List.map_drop
theorem Envies_err (l:Lett) (h:List Int) (hn:¬checkH l h=0):ACalls Tryd.prog 12 [letV l,ints h] [] (fun r o=>r = .tup [.imm [],I (checkH l h)]∧o=[]):=by
 have F:=Fx.nil
 replace F:=F.add hn
 refine ent Tryd.func12 Tryd.ntmps12 Tryd.results12 ?_
 refine rK [1,2] ?_
 refine W.seqk fun K1 hK1=>?_
 refine W.seqR ?_
 refine oN 2 ?_
 refine oC [] ?_
 refine ct (CheckHolders_ok _ _) ?_
 refine oN 1 ?_
 refine oK [1,2,6] ?_
 refine rK [1,2,6,17] ?_
 refine cT ?_
 refine rK [4,5] ?_
 refine W.weaken (Le.immNil (t:=4) (by first | rfl | simp)) ?_
 refine W.ret ?_
 refine tr ?_
 clear hK1 K1
 refine er false [] [] ?_
 exact ⟨rfl,rfl⟩
theorem Rents_er (l:Lett) (h:List Int) (hn:¬checkH l h=0):ACalls Tryd.prog 13 [letV l,ints h] [] (fun r o=>r = .tup [.imm [],I (checkH l h)]∧o=[]):=by
 have F:=Fx.nil
 replace F:=F.add hn
 refine ent Tryd.func13 Tryd.ntmps13 Tryd.results13 ?_
 refine rK [1,2] ?_
 refine W.seqk fun K1 hK1=>?_
 refine W.seqR ?_
 refine oN 2 ?_
 refine oC [] ?_
 refine ct (CheckHolders_ok _ _) ?_
 refine oN 1 ?_
 refine oK [1,2,6] ?_
 refine rK [1,2,6,16] ?_
 refine cT ?_
 refine rK [4,5] ?_
 refine W.weaken (Le.immNil (t:=4) (by first | rfl | simp)) ?_
 refine W.ret ?_
 refine tr ?_
 clear hK1 K1
 refine er false [] [] ?_
 exact ⟨rfl,rfl⟩
attribute [local simp] rentsL_len rentsL_zero
def envA (l:Lett) (h:List Int):List (Int×Int):=if checkH l h=0 then envL l h else []
def rentA (l:Lett) (h:List Int):List Int:=if checkH l h=0 then rentsL l h h.length else []
theorem EnvA_of {f:FuncId}(h0:∀l h,¬checkH l h=0→ACalls Tryd.prog f [letV l,ints h] [] (fun r o=>r = .tup [.imm [],I (checkH l h)]∧o=[])) (h1:∀l,ValidL l→∀h,HoldOk l h→ACalls Tryd.prog f [letV l,ints h] [] (fun r o=>r = .tup [envs (envL l h),I 0]∧o=[])) (l:Lett) (h:List Int) :
    ACalls Tryd.prog f [letV l,ints h] [] (fun r o=>r = .tup [envs (envA l h),I (checkH l h)]∧o=[]):=by
  by_cases hc:checkH l h=0
  · obtain ⟨hv,hk⟩:=checkH_zero.1 hc
    rw [envA,if_pos hc,hc];exact h1 l hv h hk
  · rw [envA,if_neg hc];exact h0 l h hc
theorem RentA_of {f:FuncId}(h0:∀l h,¬checkH l h=0→ACalls Tryd.prog f [letV l,ints h] [] (fun r o=>r = .tup [.imm [],I (checkH l h)]∧o=[])) (h1:∀l,ValidL l→∀h,HoldOk l h→ACalls Tryd.prog f [letV l,ints h] [] (fun r o=>r = .tup [ints (rentsL l h h.length),I 0]∧o=[])) (l:Lett) (h:List Int) :
    ACalls Tryd.prog f [letV l,ints h] [] (fun r o=>r = .tup [ints (rentA l h),I (checkH l h)]∧o=[]):=by
  by_cases hc:checkH l h=0
  · obtain ⟨hv,hk⟩:=checkH_zero.1 hc
    rw [rentA,if_pos hc,hc];exact h1 l hv h hk
  · rw [rentA,if_neg hc];exact h0 l h hc
theorem EnvA_ok (l:Lett) (h:List Int):ACalls Tryd.prog 12 [letV l,ints h] [] (fun r o=>r = .tup [envs (envA l h),I (checkH l h)]∧o=[]):=EnvA_of (f:=12) (fun l h hn=>Envies_err l h hn) (fun l hv h hk=>Envies_ok l hv h hk) l h
theorem RentA_ok (l:Lett) (h:List Int):ACalls Tryd.prog 13 [letV l,ints h] [] (fun r o=>r = .tup [ints (rentA l h),I (checkH l h)]∧o=[]):=RentA_of (f:=13) (fun l h hn=>Rents_er l h hn) (fun l hv h hk=>Rents_ok l hv h hk) l h
theorem Let_err (l:Lett) (hn:¬checkL l=0):ACalls Tryd.prog 10 [letV l] [] (fun r o=>r = .tup [ints [],I (checkL l)]∧o=[]):=by
 have F:=Fx.nil
 replace F:=F.add hn
 refine ent Tryd.func10 Tryd.ntmps10 Tryd.results10 ?_
 refine rK [1,2,3,9,10,37,38] ?_
 refine W.scope ?_
 refine W.seqk fun K1 hK1=>?_
 refine W.seqR ?_
 refine oN 1 ?_
 refine oC [] ?_
 refine ct (Check_ok _) ?_
 refine oN 1 ?_
 refine oK [1,2,3,4,9,10,37,38] ?_
 refine rK [1,2,3,4,9,10,15,37,38] ?_
 refine cT ?_
 refine rK [2,3] ?_
 refine W.weaken (Le.immNil (t:=2) (by first | rfl | simp)) ?_
 refine W.ret ?_
 refine tr (ngr ?_)
 clear hK1 K1
 refine er false [] [] ?_
 exact ⟨rfl,rfl⟩
def LetR (l:Lett) (z:List Int):Prop:=(ValidL l→BestL l z)∧(¬ValidL l→z=[])
theorem LetR.one {l:Lett}{z y:List Int}(h:LetR l z) (k:LetR l y):z=y:=by
  by_cases hv:ValidL l
  · exact bestL_one hv (h.1 hv) (k.1 hv)
  · rw [h.2 hv,k.2 hv]
theorem LetA_of {f:FuncId}(h0:∀l,¬checkL l=0→ACalls Tryd.prog f [letV l] [] (fun r o=>r = .tup [ints [],I (checkL l)]∧o=[])) (h1:∀l,ValidL l→ACalls Tryd.prog f [letV l] [] (fun r o=>∃z,r = .tup [ints z,I 0]∧o=[]∧BestL l z)) (l:Lett) :
    ACalls Tryd.prog f [letV l] [] (fun r o=>∃z,r = .tup [ints z,I (checkL l)]∧o=[]∧LetR l z):=by
  by_cases hc:checkL l=0
  · have hv:=checkL_zero.1 hc
    rw [hc]
    exact (h1 l hv).mono fun r o ⟨z,a,b,c⟩=>⟨z,a,b,fun _=>c,fun h=>absurd hv h⟩
  · exact (h0 l hc).mono fun r o ⟨a,b⟩=>⟨[],a,b,fun h=>absurd (checkL_zero.2 h) hc,fun _=>rfl⟩
theorem LetA_ok (l:Lett):ACalls Tryd.prog 10 [letV l] [] (fun r o=>∃z,r = .tup [ints z,I (checkL l)]∧o=[]∧LetR l z):=LetA_of (f:=10) Let_err (fun l hv=>Let_ok l hv) l
end Go.Sim
