/- Weights, and limits: the law answers true. -/
import Derived.Test.YtojjfnhjmfokhaaGreatLw
import Derived.Test.YtojjfnhjmfokhaaGreatLr
import Derived.Test.YtojjfnhjmfokhaaGreatLq
import Derived.Test.YtojjfnhjmfokhaaGreatLn
namespace Go.Sim
open Go.Proofs
set_option maxRecDepth 100000
set_option linter.unusedSimpArgs false
set_option linter.unusedVariables false
attribute [-simp] List.map_set List.map_take List.map_drop
attribute [simp] spn_eta
theorem vast_not {b:Ben}(h:¬vastB b=true):b.mas.length≤20∧b.wei.length≤20∧b.scl.length≤20∧b.tri.length≤20:=by
  simp only [vastB,decide_eq_true_eq] at h
  omega
def Small (b:Ben):Prop:=b.mas.length≤30∧b.wei.length≤30∧b.scl.length≤30∧b.tri.length≤30
theorem Small.len {b:Ben}(h:Small b):LenB b:=⟨by have:=h.1;omega,by have:=h.2.1;omega,by have:=h.2.2.1;omega,by have:=h.2.2.2;omega⟩
theorem small_made {b:Ben}{p q r d:Nat}(M:MadeB b p q r d) (hp:p≤20) (hq:q≤20) (hr:r≤20):Small b:=⟨by have:=M.mas;omega,by have:=M.wei;omega,by have:=M.scl;omega,by have:=M.tri;omega⟩
instance:NthD Ben:=⟨⟨[],[],[],[],0⟩⟩
set_option maxHeartbeats 4000000 in
theorem ScaleWeights_ok (b:Ben) (n day sh lim:Int) (nums:List Int):ACalls Tryz.prog 3 [benV b,I n,I day,I sh,I lim,ints nums] [] (fun r o=>r=B true∧o=[]):=by
 have F:=Fx.nil
 refine ent Tryz.func3 Tryz.ntmps3 Tryz.results3 ?_
 refine rK [1,2,3,4,5,6] ?_
 refine W.seqk fun K1 hK1=>?_
 by_cases hva:vastB b=true
 ·
  replace F:=F.add hva
  refine W.seqR ?_
  refine oN 1 ?_
  refine oC [] ?_
  refine ct (vast_ok b) ?_
  refine oK [1,2,3,4,5,6,33] ?_
  refine cT ?_
  refine W.seqR ?_
  refine oC [] ?_
  refine ct (awake_ok) ?_
  refine oN 1 ?_
  refine oK [12] ?_
  refine W.ret ?_
  refine tr ?_
  clear hK1 K1
  exact er0 false [] []
 ·
  replace F:=F.add hva
  refine W.seqR ?_
  refine oN 1 ?_
  refine oC [] ?_
  refine ct (vast_ok b) ?_
  refine oK [1,2,3,4,5,6,33] ?_
  refine cF ?_
  refine W.skip ?_
  refine hK1 _ ?_
  clear hK1 K1
  refine W.seqR ?_
  refine oN 1 ?_
  refine oC [] ?_
  refine CallT.mk (DieOf_ok nums) (by simp [hva]) ?_
  obtain ⟨f,qf⟩:∃f,nums.foldl dieStep 2611923443488327891=f:=⟨_,rfl⟩
  have hf:=qf
  replace F:=F.add hf
  refine WOps.norm (by simp [hva,hf];rfl) ?_
  refine oN 1 ?_
  refine oK [1,2,3,4,6,13] ?_
  refine W.seqR ?_
  refine oN 1 ?_
  refine oC [(10000,288)] ?_
  refine CallT.mkE (BenchOf_ok f 4 2 3 5 (by omega) (by omega) (by omega) (by omega)) (fun z39 hz39=>⟨(by simp [hva,hf]), ?_⟩)
  refine WOps.norm (by simp [hva,hf];rfl) ?_
  refine oN 9 ?_
  refine oK [1,2,3,4,6,13,14] ?_
  obtain ⟨⟨m,fc,hb⟩,g⟩:=z39
  obtain ⟨qmm,_,_⟩:=hz39
  have hM:MadeB m 4 2 3 5:=qmm
  have hm1:m.mas.length≤4:=hM.mas
  have hm2:m.wei.length≤3:=hM.wei
  have hm3:m.scl.length≤2:=hM.scl
  have hm4:m.tri.length≤3:=hM.tri
  have qdy:=hM.ok.days
  have hdy0:0≤m.days:=qdy.1
  have hdy8:m.days≤8:=qdy.2
  obtain ⟨c1,qc1⟩:∃c,castV g (m.scl.length:Int)=c:=⟨_,rfl⟩
  have hc1v:=qc1
  obtain ⟨g1,qg1⟩:∃c,castF g (m.scl.length:Int)=c:=⟨_,rfl⟩
  have hg1:=qg1
  obtain ⟨c2,qc2⟩:∃c,castV g1 (m.scl.length:Int)=c:=⟨_,rfl⟩
  have hc2v:=qc2
  obtain ⟨g2,qg2⟩:∃c,castF g1 (m.scl.length:Int)=c:=⟨_,rfl⟩
  have hg2:=qg2
  obtain ⟨c3,qc3⟩:∃c,castV g2 (m.days+1)=c:=⟨_,rfl⟩
  have hc3v:=qc3
  obtain ⟨g3,qg3⟩:∃c,castF g2 (m.days+1)=c:=⟨_,rfl⟩
  have hg3:=qg3
  obtain ⟨c4,qc4⟩:∃c,castV g3 2000=c:=⟨_,rfl⟩
  have hc4v:=qc4
  obtain ⟨g4,qg4⟩:∃c,castF g3 2000=c:=⟨_,rfl⟩
  have hg4:=qg4
  obtain ⟨c5,qc5⟩:∃c,castV g4 15=c:=⟨_,rfl⟩
  have hc5v:=qc5
  replace F:=F.add hM |>.add hm1 |>.add hm2 |>.add hm3 |>.add hm4 |>.add hdy0 |>.add hdy8 |>.add hc1v |>.add hg1 |>.add hc2v |>.add hg2 |>.add hc3v |>.add hg3 |>.add hc4v |>.add hg4 |>.add hc5v
  refine wD 43 [(10,[288]),(15,[288]),(23,[288]),(29,[288]),(35,[288])] [[],[],[],[],[3,2,1,0],[],[],[],[7],[7,8],[8,7,9,6],[],[],[12],[12,13],[6,9,7,8,10,13,12,14,11],[],[16,11,14,12,13,15,6,9,7,8,10,5],[],[],[],[20],[20,21],[11,14,12,13,10,8,7,9,6,15,21,20,22,19],[],[],[25,24,19,22,20,21,15,6,9,7,8,10,13,12,14,11,23,18],[],[],[19,22,20,21,15,6,9,7,8,10,13,12,14,11,23,28],[],[],[31,30,28,23,11,14,12,13,10,8,7,9,6,15,21,20,22,19,29,27],[],[],[28,23,11,14,12,13,10,8,7,9,6,15,21,20,22,19,29,34],[],[],[37,36,34,29,19,22,20,21,15,6,9,7,8,10,13,12,14,11,23,28,35,33],[34,29,19,22,20,21,15,6,9,7,8,10,13,12,14,11,23,28,35,0,1,2,3,4],[4,3,2,1,0,35,28,23,21,20,22,19,29,34,39,5,10,8,7,9,6,15,13,12,14,11,16,17],[17,16,5,39,34,29,28,35,0,1,2,3,4,40,18,23,11,14,12,13,10,8,7,9,6,15,21,20,22,19,24,25,26],[26,25,24,18,40,4,3,2,1,0,35,34,39,5,16,17,41,27,29,19,22,20,21,15,6,9,7,8,10,13,12,14,11,23,28,30,31,32],[32,31,30,27,41,17,16,5,39,0,1,2,3,4,40,18,24,25,26,42,33,35,28,23,11,14,12,13,10,8,7,9,6,15,21,20,22,19,29,34,36,37,38]] ?_
  refine dB [([44,45,46,48,49,50,51,52,53,54,55,56,57,58,59,60,61,62,63,64,65,66,67,68,69,70,71,72,73,74,75,76,77,78,79,80,81],[],[288,288,288,288,288]),([43,45,46,48,49,50,51,52,53,54,55,56,57,58,59,60,61,62,63,64,65,66,67,68,69,70,71,72,73,74,75,76,77,78,79,80,81],[false],[288,288,288,288,288]),([43,44,46,48,49,50,51,52,53,54,55,56,57,58,59,60,61,62,63,64,65,66,67,68,69,70,71,72,73,74,75,76,77,78,79,80,81],[false,false],[288,288,288,288,288]),([43,44,45,48,49,50,51,52,53,54,55,56,57,58,59,60,61,62,63,64,65,66,67,68,69,70,71,72,73,74,75,76,77,78,79,80,81],[false,false,false],[288,288,288,288,288]),([48,49,50,51,52,53,54,55,56,57,58,59,60,61,62,63,64,65,66,67,68,69,70,71,72,73,74,75,76,77,78,79,80,81],[true,true,true,true],[288,288,288,288,288]),([43,44,45,46,47,49,50,51,52,53,54,55,56,57,58,59,61,62,63,64,65,66,67,68,69,70,71,72,73,74,75,76,77,78,79,80,81,17],[false,false,false,false,false],[288,288,288,288,288]),([43,44,45,46,47,48,50,51,52,54,55,56,57,59,61,62,63,64,65,67,68,70,71,73,74,76,77,79,80],[false,false,false,false,false,false],[]),([43,44,45,46,47,48,49,54,55,56,57,59,61,62,63,64,65,67,68,70,71,73,74,76,77,79,80],[false,false,false,false,false,false,false],[]),([43,44,45,46,47,48,49,54,55,56,57,59,61,62,63,64,65,67,68,70,71,73,74,76,77,79,80],[false,false,false,false,false,false,false,true],[]),([43,44,45,46,47,48,49,54,55,56,57,59,61,62,63,64,65,67,68,70,71,73,74,76,77,79,80],[false,false,false,false,false,false,false,true,true],[])] 33 10 ?_
  refine dC [43,44,45,46,47,48,54,55,56,57,59,61,62,63,64,65,67,68,70,71,73,74,76,77,79,80] [false,false,false,false,false,false,true,true,true,true] [] [(10000,288)] ?_
  refine cd (Cast_ok g (m.scl.length:Int) (by omega)) ?_
  refine dB [([43,44,45,46,47,48,49,50,51,52,53,55,56,57,59,61,62,63,64,65,67,68,70,71,73,74,76,77,79,80],[false,false,false,false,false,false,false,false,false,false,false],[288]),([43,44,45,46,47,48,49,50,51,52,53,54,59,61,62,63,64,65,67,68,70,71,73,74,76,77,79,80],[false,false,false,false,false,false,false,false,false,false,false,false],[288]),([43,44,45,46,47,48,49,50,51,52,53,54,59,61,62,63,64,65,67,68,70,71,73,74,76,77,79,80],[false,false,false,false,false,false,false,false,false,false,false,false,true],[288]),([43,44,45,46,47,48,49,50,51,52,53,54,59,61,62,63,64,65,67,68,70,71,73,74,76,77,79,80],[false,false,false,false,false,false,false,false,false,false,false,false,true,true],[288])] 28 15 ?_
  refine dC [43,44,45,46,47,48,59,61,62,63,64,65,67,68,70,71,73,74,76,77,79,80] [false,false,false,false,false,false,true,true,true,true,true,true,true,true,true] [] [(10000,288)] ?_
  refine cd (Cast_ok g1 (m.scl.length:Int) (by omega)) ?_
  refine dBw [([43,44,45,46,47,48,49,50,51,52,53,54,55,56,57,58,61,62,63,64,65,66,67,68,69,70,71,72,73,74,75,76,77,78,79,80,81,17],[false,false,false,false,false,false,false,false,false,false,false,false,false,false,false,false],[288,288,288,288,288]),([43,44,45,46,47,61,62,63,64,65,66,67,68,69,70,71,72,73,74,75,76,77,78,79,80,81,17],[false,false,false,false,false,true,true,true,true,true,true,true,true,true,true,true,true],[288,288,288]),([43,44,45,46,47,48,49,50,51,52,53,54,55,56,57,58,59,60,62,63,64,65,66,67,68,70,71,72,73,74,75,76,77,78,79,80,81,17,18],[false,false,false,false,false,false,false,false,false,false,false,false,false,false,false,false,false,false],[288,288,288,288,288]),([43,44,45,46,47,48,49,50,51,52,53,54,55,56,57,58,59,60,61,63,64,65,67,68,70,71,73,74,76,77,79,80],[false,false,false,false,false,false,false,false,false,false,false,false,false,false,false,false,false,false,false],[288,288]),([43,44,45,46,47,48,49,50,51,52,53,54,55,56,57,58,59,60,61,62,67,68,70,71,73,74,76,77,79,80],[false,false,false,false,false,false,false,false,false,false,false,false,false,false,false,false,false,false,false,false],[288,288]),([43,44,45,46,47,48,49,50,51,52,53,54,55,56,57,58,59,60,61,62,67,68,70,71,73,74,76,77,79,80],[false,false,false,false,false,false,false,false,false,false,false,false,false,false,false,false,false,false,false,false,true],[288,288]),([43,44,45,46,47,48,49,50,51,52,53,54,55,56,57,58,59,60,61,62,67,68,70,71,73,74,76,77,79,80],[false,false,false,false,false,false,false,false,false,false,false,false,false,false,false,false,false,false,false,false,true,true],[288,288])] 20 23 ?_
  refine dC [43,44,45,46,47,48,59,60,61,67,68,70,71,73,74,76,77,79,80] [false,false,false,false,false,false,true,true,true,true,true,true,true,true,true,true,false,false,false,true,true,true,true] [] [(10000,288)] ?_
  refine cd (Cast_ok g2 (m.days+1) (by omega)) ?_
  refine dB [([43,44,45,46,47,48,49,50,51,52,53,54,55,56,57,58,59,60,61,62,63,64,65,66,68,70,71,72,73,74,75,76,77,78,79,80,81,17,18],[false,false,false,false,false,false,false,false,false,false,false,false,false,false,false,false,false,false,false,false,false,false,false,false],[288,288,288,288,288]),([43,44,45,46,47,48,49,50,51,52,53,54,55,56,57,58,59,60,61,62,63,64,65,66,67,70,71,72,73,74,75,76,77,78,79,80,81,17,18],[false,false,false,false,false,false,false,false,false,false,false,false,false,false,false,false,false,false,false,false,false,false,false,false,false],[288,288,288,288,288]),([43,44,45,46,47,48,59,60,70,71,72,73,74,75,76,77,78,79,80,81,17,18],[false,false,false,false,false,false,true,true,true,true,true,true,true,true,true,true,false,false,true,true,true,true,true,true,true,true],[288,288]),([43,44,45,46,47,48,49,50,51,52,53,54,55,56,57,58,59,60,61,62,63,64,65,66,67,68,69,71,72,73,74,76,77,78,79,80,81,17,18,19],[false,false,false,false,false,false,false,false,false,false,false,false,false,false,false,false,false,false,false,false,false,false,false,false,false,false,false],[288,288,288,288,288]),([43,44,45,46,47,48,49,50,51,52,53,54,55,56,57,58,59,60,61,62,63,64,65,66,67,68,69,70,73,74,76,77,79,80],[false,false,false,false,false,false,false,false,false,false,false,false,false,false,false,false,false,false,false,false,false,false,false,false,false,false,false,false],[288,288,288])] 14 29 ?_
  refine dC [43,44,45,46,47,48,59,60,61,67,68,69,70,73,74,76,77,79,80] [false,false,false,false,false,false,true,true,true,true,true,true,true,true,true,true,false,false,false,true,true,true,true,true,false,false,false,false,true] [] [(10000,288)] ?_
  refine cd (Cast_ok g3 2000 (by omega)) ?_
  refine dB [([43,44,45,46,47,48,49,50,51,52,53,54,55,56,57,58,59,60,61,62,63,64,65,66,67,68,69,70,71,72,74,76,77,78,79,80,81,17,18,19],[false,false,false,false,false,false,false,false,false,false,false,false,false,false,false,false,false,false,false,false,false,false,false,false,false,false,false,false,false,false],[288,288,288,288,288]),([43,44,45,46,47,48,49,50,51,52,53,54,55,56,57,58,59,60,61,62,63,64,65,66,67,68,69,70,71,72,73,76,77,78,79,80,81,17,18,19],[false,false,false,false,false,false,false,false,false,false,false,false,false,false,false,false,false,false,false,false,false,false,false,false,false,false,false,false,false,false,false],[288,288,288,288,288]),([43,44,45,46,47,48,59,60,61,67,68,69,76,77,78,79,80,81,17,18,19],[false,false,false,false,false,false,true,true,true,true,true,true,true,true,true,true,false,false,false,true,true,true,true,true,false,false,false,true,true,true,true,true],[288]),([43,44,45,46,47,48,49,50,51,52,53,54,55,56,57,58,59,60,61,62,63,64,65,66,67,68,69,70,71,72,73,74,75,77,78,79,80,17,18,19,20],[false,false,false,false,false,false,false,false,false,false,false,false,false,false,false,false,false,false,false,false,false,false,false,false,false,false,false,false,false,false,false,false,false],[288,288,288,288,288]),([43,44,45,46,47,48,49,50,51,52,53,54,55,56,57,58,59,60,61,62,63,64,65,66,67,68,69,70,71,72,73,74,75,76,79,80],[false,false,false,false,false,false,false,false,false,false,false,false,false,false,false,false,false,false,false,false,false,false,false,false,false,false,false,false,false,false,false,false,false,false],[288,288,288,288])] 8 35 ?_
  refine dC [43,44,45,46,47,48,59,60,61,67,68,69,70,73,74,75,76,79,80] [false,false,false,false,false,false,true,true,true,true,true,true,true,true,true,true,false,false,false,true,true,true,true,true,false,false,false,false,true,true,false,false,false,false,true] [] [(10000,288)] ?_
  refine cd (Cast_ok g4 15 (by omega)) ?_
  refine dB [([43,44,45,46,47,48,49,50,51,52,53,54,55,56,57,58,59,60,61,62,63,64,65,66,67,68,69,70,71,72,73,74,75,76,77,78,80,17,18,19,20],[false,false,false,false,false,false,false,false,false,false,false,false,false,false,false,false,false,false,false,false,false,false,false,false,false,false,false,false,false,false,false,false,false,false,false,false],[288,288,288,288,288]),([43,44,45,46,47,48,49,50,51,52,53,54,55,56,57,58,59,60,61,62,63,64,65,66,67,68,69,70,71,72,73,74,75,76,77,78,79,17,18,19,20],[false,false,false,false,false,false,false,false,false,false,false,false,false,false,false,false,false,false,false,false,false,false,false,false,false,false,false,false,false,false,false,false,false,false,false,false,false],[288,288,288,288,288]),([43,44,45,46,47,48,59,60,61,67,68,69,70,73,74,75,17,18,19,20],[false,false,false,false,false,false,true,true,true,true,true,true,true,true,true,true,false,false,false,true,true,true,true,true,false,false,false,false,true,true,false,false,false,true,true,true,true,true],[]),([48,59,60,61,67,68,69,70,73,74,75,76,79,80,81],[true,true,true,true,true,false,true,true,true,true,true,true,true,true,true,true,false,false,false,true,true,true,true,true,false,false,false,false,true,true,false,false,false,false,true,true,false,false,false],[]),([61,67,68,69,70,73,74,75,76,79,80,81],[true,true,true,true,true,true,true,true,true,true,true,true,true,true,true,true,true,true,false,true,true,true,true,true,false,false,false,false,true,true,false,false,false,false,true,true,false,false,false,true],[]),([70,73,74,75,76,79,80,81],[true,true,true,true,true,true,true,true,true,true,true,true,true,true,true,true,true,true,true,true,true,true,true,true,true,true,true,false,true,true,false,false,false,false,true,true,false,false,false,true,true],[]),([76,79,80,81],[true,true,true,true,true,true,true,true,true,true,true,true,true,true,true,true,true,true,true,true,true,true,true,true,true,true,true,true,true,true,true,true,true,false,true,true,false,false,false,true,true,true],[])] 0 43 ?_
  refine dD ?_
  refine oN 1 ?_
  refine oK [17,18,19,20,21] ?_
  refine W.seqk fun K2 hK2=>?_
  obtain ⟨BS,qBS⟩:∃BS,BS=[b,m,m,m]:=⟨_,rfl⟩
  obtain ⟨NS,qNS⟩:∃NS,NS=[n,c1,c2,n]:=⟨_,rfl⟩
  obtain ⟨DS,qDS⟩:∃NS,NS=[day,c3,day,day]:=⟨_,rfl⟩
  obtain ⟨SS,qSS⟩:∃NS,NS=[sh,c4,sh,sh]:=⟨_,rfl⟩
  obtain ⟨TS,qTS⟩:∃NS,NS=[lim,c5,lim,lim]:=⟨_,rfl⟩
  have hBS:[benV b,benV m,benV m,benV m]=BS.map benV:=by rw [qBS];rfl
  have hNS:[I n,I c1,I c2,I n]=NS.map I:=by rw [qNS];rfl
  have hDS:[I day,I c3,I day,I day]=DS.map I:=by rw [qDS];rfl
  have hSS:[I sh,I c4,I sh,I sh]=SS.map I:=by rw [qSS];rfl
  have hTS:[I lim,I c5,I lim,I lim]=TS.map I:=by rw [qTS];rfl
  have hBSl:BS.length=4:=by rw [qBS];rfl
  have hNSl:NS.length=4:=by rw [qNS];rfl
  have hDSl:DS.length=4:=by rw [qDS];rfl
  have hSSl:SS.length=4:=by rw [qSS];rfl
  have hTSl:TS.length=4:=by rw [qTS];rfl
  have qsm:∀x∈BS,Small x:=fun x hx=>by
    rw [qBS] at hx
    simp only [List.mem_cons,List.not_mem_nil,or_false] at hx
    have q1:=vast_not hva
    have q2:=small_made hM (by omega) (by omega) (by omega)
    rcases hx with rfl | rfl | rfl | rfl
    · exact ⟨by omega,by omega,by omega,by omega⟩
    · exact q2
    · exact q2
    · exact q2
  replace F:=F.add hBS |>.add hNS |>.add hDS |>.add hSS |>.add hTS |>.add hBSl |>.add hNSl |>.add hDSl |>.add hSSl |>.add hTSl
  refine rK [17,18,19,20,21,22] ?_
  refine W.block ?_
  refine W.weaken Le.dedup ?_
  refine W.norm (by simp;rfl) ?_
  refine lpa (α:=Nat) [17,18,19,20,21] [23,24,26,84,92,107,127,144,164,191] [] (fun i=>[(22,I i)]) (fun i=>[]) (fun i=>i≤4) (fun i=>4-i) 0 v0 ?_
  ·
   intro i hI0
   simp only [List.cons_append,List.nil_append]
   try dsimp only at hI0
   replace F:=F.add hI0
   refine W.seqk fun K3 hK3=>?_
   refine rK [17,18,19,20,21,22,85] ?_
   refine it (fun hc3=>?_) (fun hc3=>?_)
   ·
    try simp at hc3
    replace F:=F.add hc3
    refine W.skip ?_
    refine hK3 _ ?_
    clear hK3 K3
    refine W.seqk fun K4 hK4=>?_
    refine W.block ?_
    have hi4:i<4:=by omega
    have hiB:i<BS.length:=by omega
    have hiN:i<NS.length:=by omega
    have hiD:i<DS.length:=by omega
    have hiS:i<SS.length:=by omega
    have hiT:i<TS.length:=by omega
    have qsi:=qsm _ (List.getElem_mem hiB)
    obtain ⟨C,qC⟩:∃C,C=BS[i]:=⟨_,rfl⟩
    have hC:=qC.symm
    rw [←qC] at qsi
    obtain ⟨k,qk⟩:∃k,k=NS[i]:=⟨_,rfl⟩
    have hk:=qk.symm
    obtain ⟨d,qd⟩:∃k,k=DS[i]:=⟨_,rfl⟩
    have hd:=qd.symm
    obtain ⟨s,qs⟩:∃k,k=SS[i]:=⟨_,rfl⟩
    have hs:=qs.symm
    obtain ⟨l,ql⟩:∃k,k=TS[i]:=⟨_,rfl⟩
    have hl:=ql.symm
    have qsl:=qsi.len
    replace F:=F.add hi4 |>.add hiB |>.add hiN |>.add hiD |>.add hiS |>.add hiT |>.add hC |>.add hk |>.add hd |>.add hs |>.add hl
    refine W.seqR ?_
    refine oN 4 ?_
    refine oC [] ?_
    refine ct (CopyBench_imm C qsl.mas qsl.wei qsl.scl qsl.tri) ?_
    refine oN 2 ?_
    refine oK [17,18,19,20,21,22,23] ?_
    refine wD 19 [(18,[192])] [[],[],[],[2,1],[1,2,3],[],[],[6,5],[5,6,7],[],[],[10,9],[9,10,11],[11,10,9,12,7,6,5,8,3,2,1,4,0],[0,4,1,2,3,8,5,6,7,12,9,10,11,13],[13,11,10,9,12,7,6,5,8,3,2,1,4,0,14],[13,11,10,9,12,7,6,5,8,3,2,1,4,0,14],[],[14,0,4,1,2,3,8,5,6,7,12,9,10,11,13,15,17],[17,15,18,14,0,4,1,2,3,8,5,6,7,12,9,10,11,13,16]] ?_
    refine dB [([95,96,97,98,99,100,101,102,103,104,105,106,24],[],[]),([94,96,99,100,101,102,103,104,105,106,24],[false],[]),([94,95,99,100,101,102,103,104,105,106,24],[false,false],[]),([94,99,100,101,102,103,104,105,106,24],[false,true,true],[]),([94,99,100,101,102,103,104,105,106,24],[false,true,true,true],[]),([94,95,96,97,98,100,103,104,105,106,24],[false,false,false,false,false],[]),([94,95,96,97,98,99,103,104,105,106,24],[false,false,false,false,false,false],[]),([94,95,96,97,98,103,104,105,106,24],[false,false,false,false,false,true,true],[]),([94,95,96,97,98,103,104,105,106,24],[false,false,false,false,false,true,true,true],[]),([94,95,96,97,98,99,100,101,102,104,24],[false,false,false,false,false,false,false,false,false],[]),([94,95,96,97,98,99,100,101,102,103,24],[false,false,false,false,false,false,false,false,false,false],[]),([94,95,96,97,98,99,100,101,102,24],[false,false,false,false,false,false,false,false,false,true,true],[]),([94,95,96,97,98,99,100,101,102,24],[false,false,false,false,false,false,false,false,false,true,true,true],[])] 6 13 ?_
    refine dC [24] [true,true,true,true,true,true,true,true,true,true,true,true,true] [] [] ?_
    refine cd (Weight_ok C qsl k d s) ?_
    refine dB [([24],[true,true,true,true,true,true,true,true,true,true,true,true,true,true],[]),([109,24],[true,true,true,true,true,true,true,true,true,true,true,true,true,true,true],[]),([108,24],[true,true,true,true,true,true,true,true,true,true,true,true,true,true,true,false],[192]),([94,95,96,97,98,99,100,101,102,103,104,105,106,107,93,108,109],[false,false,false,false,false,false,false,false,false,false,false,false,false,false,false,false,false],[])] 1 18 ?_
    refine WDraw.upd hΓ [192] (viewB_eq (L:=[109]) (S:=[true,true,true,true,true,true,true,true,true,true,true,true,true,true,true,true,false,true]) (O:=[]) (by kernel_rfl) (by kernel_rfl) (by simp [hva,hf,hM,hm1,hm2,hm3,hm4,hdy0,hdy8,hc1v,hg1,hc2v,hg2,hc3v,hg3,hc4v,hg4,hc5v,hBS,hNS,hDS,hSS,hTS,hBSl,hNSl,hDSl,hSSl,hTSl,hI0,hc3,hi4,hiB,hiN,hiD,hiS,hiT,hC,hk,hd,hs,hl];rfl)) (by first | rfl | simp) (by simp [hva,hf,hM,hm1,hm2,hm3,hm4,hdy0,hdy8,hc1v,hg1,hc2v,hg2,hc3v,hg3,hc4v,hg4,hc5v,hBS,hNS,hDS,hSS,hTS,hBSl,hNSl,hDSl,hSSl,hTSl,hI0,hc3,hi4,hiB,hiN,hiD,hiS,hiT,hC,hk,hd,hs,hl];first | rfl | exact ⟨rfl,rfl⟩) (by simp [hva,hf,hM,hm1,hm2,hm3,hm4,hdy0,hdy8,hc1v,hg1,hc2v,hg2,hc3v,hg3,hc4v,hg4,hc5v,hBS,hNS,hDS,hSS,hTS,hBSl,hNSl,hDSl,hSSl,hTSl,hI0,hc3,hi4,hiB,hiN,hiD,hiS,hiT,hC,hk,hd,hs,hl];first | done | rfl) (.inr (by simp)) (by simp [hva,hf,hM,hm1,hm2,hm3,hm4,hdy0,hdy8,hc1v,hg1,hc2v,hg2,hc3v,hg3,hc4v,hg4,hc5v,hBS,hNS,hDS,hSS,hTS,hBSl,hNSl,hDSl,hSSl,hTSl,hI0,hc3,hi4,hiB,hiN,hiD,hiS,hiT,hC,hk,hd,hs,hl];rfl) ?_
    refine dD ?_
    refine WOps.le Le.dedup rfl rfl ?_
    refine WOps.norm (by simp [hva,hf,hM,hm1,hm2,hm3,hm4,hdy0,hdy8,hc1v,hg1,hc2v,hg2,hc3v,hg3,hc4v,hg4,hc5v,hBS,hNS,hDS,hSS,hTS,hBSl,hNSl,hDSl,hSSl,hTSl,hI0,hc3,hi4,hiB,hiN,hiD,hiS,hiT,hC,hk,hd,hs,hl];rfl) ?_
    refine oN 1 ?_
    refine oK [17,18,19,20,21,22,23,24,25] ?_
    refine wD 22 [(21,[208])] [[],[],[1,0],[0,1,2],[],[],[5,4],[4,5,6],[],[],[9,8],[8,9,10],[],[],[13,12],[12,13,14],[14,13,12,15,10,9,8,11,6,5,4,7,2,1,0,3],[3,0,1,2,7,4,5,6,11,8,9,10,15,12,13,14,16],[16,14,13,12,15,10,9,8,11,6,5,4,7,2,1,0,3,17],[16,14,13,12,15,10,9,8,11,6,5,4,7,2,1,0,3,17],[],[17,3,0,1,2,7,4,5,6,11,8,9,10,15,12,13,14,16,18,20],[20,18,21,17,3,0,1,2,7,4,5,6,11,8,9,10,15,12,13,14,16,19]] ?_
    refine dB [([112,115,116,117,118,119,120,121,122,123,124,125,126,26],[],[]),([111,115,116,117,118,119,120,121,122,123,124,125,126,26],[false],[]),([115,116,117,118,119,120,121,122,123,124,125,126,26],[true,true],[]),([115,116,117,118,119,120,121,122,123,124,125,126,26],[true,true,true],[]),([111,112,113,114,116,119,120,121,122,123,124,125,126,26],[false,false,false,false],[]),([111,112,113,114,115,119,120,121,122,123,124,125,126,26],[false,false,false,false,false],[]),([111,112,113,114,119,120,121,122,123,124,125,126,26],[false,false,false,false,true,true],[]),([111,112,113,114,119,120,121,122,123,124,125,126,26],[false,false,false,false,true,true,true],[]),([111,112,113,114,115,116,117,118,120,123,124,125,126,26],[false,false,false,false,false,false,false,false],[]),([111,112,113,114,115,116,117,118,119,123,124,125,126,26],[false,false,false,false,false,false,false,false,false],[]),([111,112,113,114,115,116,117,118,123,124,125,126,26],[false,false,false,false,false,false,false,false,true,true],[]),([111,112,113,114,115,116,117,118,123,124,125,126,26],[false,false,false,false,false,false,false,false,true,true,true],[]),([111,112,113,114,115,116,117,118,119,120,121,122,124,26],[false,false,false,false,false,false,false,false,false,false,false,false],[]),([111,112,113,114,115,116,117,118,119,120,121,122,123,26],[false,false,false,false,false,false,false,false,false,false,false,false,false],[]),([111,112,113,114,115,116,117,118,119,120,121,122,26],[false,false,false,false,false,false,false,false,false,false,false,false,true,true],[]),([111,112,113,114,115,116,117,118,119,120,121,122,26],[false,false,false,false,false,false,false,false,false,false,false,false,true,true,true],[])] 6 16 ?_
    refine dC [26] [true,true,true,true,true,true,true,true,true,true,true,true,true,true,true,true] [] [] ?_
    refine cd (rWeight_ok C qsl k d s) ?_
    refine dB [([26],[true,true,true,true,true,true,true,true,true,true,true,true,true,true,true,true,true],[]),([129,26],[true,true,true,true,true,true,true,true,true,true,true,true,true,true,true,true,true,true],[]),([128,26],[true,true,true,true,true,true,true,true,true,true,true,true,true,true,true,true,true,true,false],[208]),([111,112,113,114,115,116,117,118,119,120,121,122,123,124,125,126,127,110,128,129],[false,false,false,false,false,false,false,false,false,false,false,false,false,false,false,false,false,false,false,false],[])] 1 21 ?_
    refine WDraw.upd hΓ [208] (viewB_eq (L:=[129]) (S:=[true,true,true,true,true,true,true,true,true,true,true,true,true,true,true,true,true,true,true,false,true]) (O:=[]) (by kernel_rfl) (by kernel_rfl) (by simp [hva,hf,hM,hm1,hm2,hm3,hm4,hdy0,hdy8,hc1v,hg1,hc2v,hg2,hc3v,hg3,hc4v,hg4,hc5v,hBS,hNS,hDS,hSS,hTS,hBSl,hNSl,hDSl,hSSl,hTSl,hI0,hc3,hi4,hiB,hiN,hiD,hiS,hiT,hC,hk,hd,hs,hl];rfl)) (by first | rfl | simp) (by simp [hva,hf,hM,hm1,hm2,hm3,hm4,hdy0,hdy8,hc1v,hg1,hc2v,hg2,hc3v,hg3,hc4v,hg4,hc5v,hBS,hNS,hDS,hSS,hTS,hBSl,hNSl,hDSl,hSSl,hTSl,hI0,hc3,hi4,hiB,hiN,hiD,hiS,hiT,hC,hk,hd,hs,hl];first | rfl | exact ⟨rfl,rfl⟩) (by simp [hva,hf,hM,hm1,hm2,hm3,hm4,hdy0,hdy8,hc1v,hg1,hc2v,hg2,hc3v,hg3,hc4v,hg4,hc5v,hBS,hNS,hDS,hSS,hTS,hBSl,hNSl,hDSl,hSSl,hTSl,hI0,hc3,hi4,hiB,hiN,hiD,hiS,hiT,hC,hk,hd,hs,hl];first | done | rfl) (.inr (by simp)) (by simp [hva,hf,hM,hm1,hm2,hm3,hm4,hdy0,hdy8,hc1v,hg1,hc2v,hg2,hc3v,hg3,hc4v,hg4,hc5v,hBS,hNS,hDS,hSS,hTS,hBSl,hNSl,hDSl,hSSl,hTSl,hI0,hc3,hi4,hiB,hiN,hiD,hiS,hiT,hC,hk,hd,hs,hl];rfl) ?_
    refine dD ?_
    refine WOps.le Le.dedup rfl rfl ?_
    refine WOps.norm (by simp [hva,hf,hM,hm1,hm2,hm3,hm4,hdy0,hdy8,hc1v,hg1,hc2v,hg2,hc3v,hg3,hc4v,hg4,hc5v,hBS,hNS,hDS,hSS,hTS,hBSl,hNSl,hDSl,hSSl,hTSl,hI0,hc3,hi4,hiB,hiN,hiD,hiS,hiT,hC,hk,hd,hs,hl];rfl) ?_
    refine oN 1 ?_
    refine oK [17,18,19,20,21,22,23,24,25,26,27] ?_
    refine wD 18 [] [[],[],[],[2,1],[1,2,3],[],[],[6,5],[5,6,7],[],[],[10,9],[9,10,11],[11,10,9,12,7,6,5,8,3,2,1,4,0],[0,4,1,2,3,8,5,6,7,12,9,10,11,13],[13,11,10,9,12,7,6,5,8,3,2,1,4,0,14],[13,11,10,9,12,7,6,5,8,3,2,1,4,0,14],[14,0,4,1,2,3,8,5,6,7,12,9,10,11,13,15],[15,17,14,0,4,1,2,3,8,5,6,7,12,9,10,11,13,16]] ?_
    refine dB [([132,133,134,135,136,137,138,139,140,141,142,143],[],[]),([131,133,136,137,138,139,140,141,142,143],[false],[]),([131,132,136,137,138,139,140,141,142,143],[false,false],[]),([131,136,137,138,139,140,141,142,143],[false,true,true],[]),([131,136,137,138,139,140,141,142,143],[false,true,true,true],[]),([131,132,133,134,135,137,140,141,142,143],[false,false,false,false,false],[]),([131,132,133,134,135,136,140,141,142,143],[false,false,false,false,false,false],[]),([131,132,133,134,135,140,141,142,143],[false,false,false,false,false,true,true],[]),([131,132,133,134,135,140,141,142,143],[false,false,false,false,false,true,true,true],[]),([131,132,133,134,135,136,137,138,139,141],[false,false,false,false,false,false,false,false,false],[]),([131,132,133,134,135,136,137,138,139,140],[false,false,false,false,false,false,false,false,false,false],[]),([131,132,133,134,135,136,137,138,139],[false,false,false,false,false,false,false,false,false,true,true],[]),([131,132,133,134,135,136,137,138,139],[false,false,false,false,false,false,false,false,false,true,true,true],[])] 5 13 ?_
    refine dC [] [true,true,true,true,true,true,true,true,true,true,true,true,true] [] [] ?_
    refine cd (Keeps_ok C qsl k d l) ?_
    refine dB [([],[true,true,true,true,true,true,true,true,true,true,true,true,true,true],[]),([146],[true,true,true,true,true,true,true,true,true,true,true,true,true,true,true],[]),([145,28],[true,true,true,true,true,true,true,true,true,true,true,true,true,true,true,false],[]),([146],[true,true,true,true,true,true,true,true,true,true,true,true,true,true,true,true,false],[])] 0 18 ?_
    refine dD ?_
    refine oN 1 ?_
    refine oK [17,18,19,20,21,22,23,24,25,26,27,28,29] ?_
    refine wD 21 [] [[],[],[1,0],[0,1,2],[],[],[5,4],[4,5,6],[],[],[9,8],[8,9,10],[],[],[13,12],[12,13,14],[14,13,12,15,10,9,8,11,6,5,4,7,2,1,0,3],[3,0,1,2,7,4,5,6,11,8,9,10,15,12,13,14,16],[16,14,13,12,15,10,9,8,11,6,5,4,7,2,1,0,3,17],[16,14,13,12,15,10,9,8,11,6,5,4,7,2,1,0,3,17],[17,3,0,1,2,7,4,5,6,11,8,9,10,15,12,13,14,16,18],[18,20,17,3,0,1,2,7,4,5,6,11,8,9,10,15,12,13,14,16,19]] ?_
    refine dB [([149,152,153,154,155,156,157,158,159,160,161,162,163],[],[]),([148,152,153,154,155,156,157,158,159,160,161,162,163],[false],[]),([152,153,154,155,156,157,158,159,160,161,162,163],[true,true],[]),([152,153,154,155,156,157,158,159,160,161,162,163],[true,true,true],[]),([148,149,150,151,153,156,157,158,159,160,161,162,163],[false,false,false,false],[]),([148,149,150,151,152,156,157,158,159,160,161,162,163],[false,false,false,false,false],[]),([148,149,150,151,156,157,158,159,160,161,162,163],[false,false,false,false,true,true],[]),([148,149,150,151,156,157,158,159,160,161,162,163],[false,false,false,false,true,true,true],[]),([148,149,150,151,152,153,154,155,157,160,161,162,163],[false,false,false,false,false,false,false,false],[]),([148,149,150,151,152,153,154,155,156,160,161,162,163],[false,false,false,false,false,false,false,false,false],[]),([148,149,150,151,152,153,154,155,160,161,162,163],[false,false,false,false,false,false,false,false,true,true],[]),([148,149,150,151,152,153,154,155,160,161,162,163],[false,false,false,false,false,false,false,false,true,true,true],[]),([148,149,150,151,152,153,154,155,156,157,158,159,161],[false,false,false,false,false,false,false,false,false,false,false,false],[]),([148,149,150,151,152,153,154,155,156,157,158,159,160],[false,false,false,false,false,false,false,false,false,false,false,false,false],[]),([148,149,150,151,152,153,154,155,156,157,158,159],[false,false,false,false,false,false,false,false,false,false,false,false,true,true],[]),([148,149,150,151,152,153,154,155,156,157,158,159],[false,false,false,false,false,false,false,false,false,false,false,false,true,true,true],[])] 5 16 ?_
    refine dC [] [true,true,true,true,true,true,true,true,true,true,true,true,true,true,true,true] [] [] ?_
    refine cd (rKeeps_ok C qsl k d l) ?_
    refine dB [([],[true,true,true,true,true,true,true,true,true,true,true,true,true,true,true,true,true],[]),([166],[true,true,true,true,true,true,true,true,true,true,true,true,true,true,true,true,true,true],[]),([165,30],[true,true,true,true,true,true,true,true,true,true,true,true,true,true,true,true,true,true,false],[]),([166],[true,true,true,true,true,true,true,true,true,true,true,true,true,true,true,true,true,true,true,false],[])] 0 21 ?_
    refine dD ?_
    refine oN 1 ?_
    refine oK [17,18,19,20,21,22,23,24,25,26,27,28,29,30,31] ?_
    refine wD 24 [] [[],[],[1,0],[0,1,2],[2,1,0,3],[2,1,0,3],[5,3,0,1,2,4],[4,5,6,2,1,0,3],[3,0,1,2,6,5,4,7],[7,4,5,6,2,1,0,3,8],[7,4,5,6,2,1,0,3,8],[10,8,3,0,1,2,6,5,4,7,9],[9,10,11,7,4,5,6,2,1,0,3,8],[8,3,0,1,2,6,5,4,7,11,10,9,12],[12,9,10,11,7,4,5,6,2,1,0,3,8,13],[12,9,10,11,7,4,5,6,2,1,0,3,8,13],[15,13,8,3,0,1,2,6,5,4,7,11,10,9,12,14],[14,15,16,12,9,10,11,7,4,5,6,2,1,0,3,8,13],[13,8,3,0,1,2,6,5,4,7,11,10,9,12,16,15,14,17],[17,14,15,16,12,9,10,11,7,4,5,6,2,1,0,3,8,13,18],[17,14,15,16,12,9,10,11,7,4,5,6,2,1,0,3,8,13,18],[17,14,15,16,12,9,10,11,7,4,5,6,2,1,0,3,8,13,18],[21,18,13,8,3,0,1,2,6,5,4,7,11,10,9,12,16,15,14,17,20],[20,17,14,15,16,12,9,10,11,7,4,5,6,2,1,0,3,8,13,18,21,22],[22,21,20,23,18,13,8,3,0,1,2,6,5,4,7,11,10,9,12,16,15,14,17,19],[19,17,14,15,16,12,9,10,11,7,4,5,6,2,1,0,3,8,13,18,23,20,21,22,24],[24,22,21,20,23,19,25,17,14,15,16,12,9,10,11,7,4,5,6,2,1,0,3,8,13,18]] ?_
    refine dB [([168],[],[]),([167],[false],[]),([],[true,true],[]),([],[true,true,true],[])] 20 4 ?_
    refine dT [172] [true,true,true,true] [] ?_
    refine dT [171] [true,true,true,true,false] [] ?_
    refine dT [] [true,true,true,true,true,true] [] ?_
    refine dB [([],[true,true,true,true,true,true,true],[]),([],[true,true,true,true,true,true,true,true],[])] 15 9 ?_
    refine dT [177] [true,true,true,true,true,true,true,true,true] [] ?_
    refine dT [176] [true,true,true,true,true,true,true,true,true,false] [] ?_
    refine dT [] [true,true,true,true,true,true,true,true,true,true,true] [] ?_
    refine dB [([],[true,true,true,true,true,true,true,true,true,true,true,true],[]),([],[true,true,true,true,true,true,true,true,true,true,true,true,true],[])] 10 14 ?_
    refine dT [182] [true,true,true,true,true,true,true,true,true,true,true,true,true,true] [] ?_
    refine dT [181] [true,true,true,true,true,true,true,true,true,true,true,true,true,true,false] [] ?_
    refine dT [] [true,true,true,true,true,true,true,true,true,true,true,true,true,true,true,true] [] ?_
    refine dB [([],[true,true,true,true,true,true,true,true,true,true,true,true,true,true,true,true,true],[]),([],[true,true,true,true,true,true,true,true,true,true,true,true,true,true,true,true,true,true],[])] 5 19 ?_
    refine dT [187,188,189,190] [true,true,true,true,true,true,true,true,true,true,true,true,true,true,true,true,true,true,true] [] ?_
    refine dT [186,188] [true,true,true,true,true,true,true,true,true,true,true,true,true,true,true,true,true,true,true,false] [] ?_
    refine dT [186,187] [true,true,true,true,true,true,true,true,true,true,true,true,true,true,true,true,true,true,true,false,false] [] ?_
    refine dT [186] [true,true,true,true,true,true,true,true,true,true,true,true,true,true,true,true,true,true,true,false,true,true] [] ?_
    refine dT [186] [true,true,true,true,true,true,true,true,true,true,true,true,true,true,true,true,true,true,true,false,true,true,true] [] ?_
    refine dD ?_
    refine gC [] ?_
    refine ct (SameBenches_same C qsl.mas qsl.wei qsl.scl qsl.tri) ?_
    refine gT ?_
    refine oN 1 ?_
    refine oK [17,18,19,20,21,22,193] ?_
    refine cF ?_
    refine W.skip ?_
    refine hK4 _ ?_
    clear hK4 K4
    refine rEw ?_
    refine ⟨i+1,lf0,v0,v0⟩
   ·
    try simp at hc3
    replace F:=F.add hc3
    refine W.exit ?_
    refine hK2 _ ?_
    clear hK3 K3 hK2 K2
    refine W.seqR ?_
    refine oC [] ?_
    refine ct (awake_ok) ?_
    refine oN 1 ?_
    refine oK [12] ?_
    refine W.ret ?_
    exact er0 false [] []
end Go.Sim
