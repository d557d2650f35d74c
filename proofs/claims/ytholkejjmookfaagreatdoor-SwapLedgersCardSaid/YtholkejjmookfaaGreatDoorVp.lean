/- SwapRings: the law's walk. -/
import Derived.Test.YtholkejjmookfaaGreatDoorVo
namespace Go.Sim.W6
open Go.Proofs Go.Plain
set_option maxRecDepth 100000
set_option linter.unusedSimpArgs false
set_option linter.unusedVariables false
attribute [-simp] List.map_set List.map_take List.map_drop
attribute [local simp] take_map' drop_map'
def wideT (ow:List Turn) (lk:List (List Turn)):Bool:=((lk.take 20).any fun l=>decide (30<l.length))||(decide (20<ow.length)||decide (20<lk.length))
set_option maxHeartbeats 4000000 in
theorem wide_ok (ow:List Turn) (lk:List (List Turn)):ACalls Tryz.prog 4 [trade ow lk] [] (fun r o=>r=B (wideT ow lk)∧o=[]):=by
 have F:=Fx.nil
 refine ent Tryz.func4 Tryz.ntmps4 Tryz.results4 ?_
 refine rK [1] ?_
 refine W.seqk fun K1 hK1=>?_
 refine rK [1,3] ?_
 refine W.block ?_
 refine lpa (α:=Nat) [1] [7,20] [] (fun i=>[(3,I i)]) (fun i=>[]) (fun i=>i≤lk.length∧i≤20∧((lk.take 20).any fun l=>decide (30<l.length))=((lk.take 20).drop i).any fun l=>decide (30<l.length)) (fun i=>lk.length-i) 0 ?_ ?_
 ·
  exact ⟨by omega,by omega,rfl⟩
 ·
  intro i hI0
  simp only [List.cons_append,List.nil_append]
  try dsimp only at hI0
  obtain ⟨hi,hi20,he⟩:=hI0
  replace F:=F.add hi |>.add hi20
  refine W.seqk fun K2 hK2=>?_
  by_cases hlt:i<lk.length
  ·
   replace F:=F.add hlt
   by_cases h20:(i:Int)<20
   ·
    replace F:=F.add h20
    refine W.seqR ?_
    refine oN 6 ?_
    refine gT ?_
    refine gT ?_
    refine oN 1 ?_
    refine oK [1,3,12] ?_
    refine cT ?_
    refine W.skip ?_
    refine hK2 _ ?_
    clear hK2 K2
    refine W.seqk fun K3 hK3=>?_
    refine W.block ?_
    refine rK [1,3,21] ?_
    refine it (fun hc2=>?_) (fun hc2=>?_)
    ·
     try simp at hc2
     replace F:=F.add hc2
     refine rK [2] ?_
     refine W.ret ?_
     refine br (tr (tr (br (tr ?_))))
     clear hK3 K3 hK1 K1
     refine er false [] [] ?_
     exact ⟨by rw [wideT,he,any_drop (by simp;omega),show (lk.take 20)[i]'(by simp;omega)=lk[i] by simp,decide_eq_true (by omega)];rfl,rfl⟩
    ·
     try simp at hc2
     replace F:=F.add hc2
     refine W.skip ?_
     refine hK3 _ ?_
     clear hK3 K3
     refine rEw ?_
     refine ⟨i+1,lf0, ?_,v0⟩
     ·
      exact ⟨by omega,by omega,by rw [he,any_drop (by simp;omega),show (lk.take 20)[i]'(by simp;omega)=lk[i] by simp,decide_eq_false (by omega),Bool.false_or]⟩
   ·
    replace F:=F.add h20
    refine W.seqR ?_
    refine oN 6 ?_
    refine gT ?_
    refine gT ?_
    refine oN 1 ?_
    refine oK [1,3,12] ?_
    refine cF ?_
    refine W.exit ?_
    refine hK1 _ ?_
    clear hK2 K2 hK1 K1
    by_cases hbig:20<(ow.length:Int)
    ·
     replace F:=F.add hbig
     refine W.seqR ?_
     refine oN 5 ?_
     refine gF ?_
     refine gF ?_
     refine gF ?_
     refine gF ?_
     refine oN 2 ?_
     refine oK [2] ?_
     refine W.ret ?_
     refine er false [] [] ?_
     refine ⟨?_,rfl⟩
     rw [wideT,he,List.drop_of_length_le (by rw [List.length_take];omega),List.any_nil,Bool.false_or,decide_eq_true (by omega),Bool.true_or]
    ·
     replace F:=F.add hbig
     refine W.seqR ?_
     refine oN 5 ?_
     refine gT ?_
     refine gT ?_
     refine gT ?_
     refine gT ?_
     refine oN 2 ?_
     refine oK [2] ?_
     refine W.ret ?_
     refine er false [] [] ?_
     refine ⟨?_,rfl⟩
     rw [wideT,he,List.drop_of_length_le (by rw [List.length_take];omega),List.any_nil,Bool.false_or,show decide (20<ow.length)=false from decide_eq_false (by omega),Bool.false_or]
     exact congrArg B (by rw [decide_eq_decide];omega)
  ·
   replace F:=F.add hlt
   refine W.seqR ?_
   refine oN 6 ?_
   refine gF ?_
   refine gF ?_
   refine oN 1 ?_
   refine oK [1,3,12] ?_
   refine cF ?_
   refine W.exit ?_
   refine hK1 _ ?_
   clear hK2 K2 hK1 K1
   by_cases hbig:20<(ow.length:Int)
   ·
    replace F:=F.add hbig
    refine W.seqR ?_
    refine oN 5 ?_
    refine gF ?_
    refine gF ?_
    refine gF ?_
    refine gF ?_
    refine oN 2 ?_
    refine oK [2] ?_
    refine W.ret ?_
    refine er false [] [] ?_
    refine ⟨?_,rfl⟩
    rw [wideT,he,List.drop_of_length_le (by rw [List.length_take];omega),List.any_nil,Bool.false_or,decide_eq_true (by omega),Bool.true_or]
   ·
    replace F:=F.add hbig
    refine W.seqR ?_
    refine oN 5 ?_
    refine gT ?_
    refine gT ?_
    refine gT ?_
    refine gT ?_
    refine oN 2 ?_
    refine oK [2] ?_
    refine W.ret ?_
    refine er false [] [] ?_
    refine ⟨?_,rfl⟩
    rw [wideT,he,List.drop_of_length_le (by rw [List.length_take];omega),List.any_nil,Bool.false_or,show decide (20<ow.length)=false from decide_eq_false (by omega),Bool.false_or]
    exact congrArg B (by rw [decide_eq_decide];omega)
end Go.Sim.W6
