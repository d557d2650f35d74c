/- Benches that may be, and what is known: the law answers true. -/
import Derived.Test.YtojjfnhjmfokhaaLr
import Derived.Test.YtojjfnhjmfokhaaLq
import Derived.Test.YtojjfnhjmfokhaaLn
import Derived.Test.YtojjfnhjmfokhaaLl
namespace Go.Sim
open Go.Proofs
set_option maxRecDepth 100000
set_option linter.unusedSimpArgs false
set_option linter.unusedVariables false
attribute [-simp] List.map_set List.map_take List.map_drop
attribute [simp] spn_eta
theorem vast_not {b:Ben} (h:¬ vastB b=true):b.mas.length≤20∧b.wei.length≤20∧b.scl.length≤20∧b.tri.length≤20:=by
  simp only [vastB,decide_eq_true_eq] at h
  omega
def Small (b:Ben):Prop:=b.mas.length≤30∧b.wei.length≤30∧b.scl.length≤30∧b.tri.length≤30
theorem Small.len {b:Ben} (h:Small b):LenB b:=⟨by have:=h.1; omega,by have:=h.2.1; omega,by have:=h.2.2.1; omega,by have:=h.2.2.2; omega⟩
theorem small_made {b:Ben} {p q r d:Nat} (M:MadeB b p q r d) (hp:p≤20) (hq:q≤20) (hr:r≤20):Small b:=⟨by have:=M.mas; omega,by have:=M.wei; omega,by have:=M.scl; omega,by have:=M.tri; omega⟩
def moreB (b:Ben) (t:Tri):Ben:=⟨b.mas,b.wei,b.scl,b.tri ++ [t],b.days⟩
instance:NthD Ben:=⟨⟨[],[],[],[],0⟩⟩
set_option maxHeartbeats 4000000 in
theorem ScaleKnown_ok (b:Ben) (n:Int) (t:Tri) (nums:List Int):ACalls Try.prog 7 [benV b,I n,R4 t,ints nums] [] (fun r o=>r=B true∧o=[]):=by
 have F:=Fx.nil
 refine ent Try.func7 Try.ntmps7 Try.results7 ?_
 refine rK [1,3,4,6] ?_
 refine W.seqk fun K1 hK1=>?_
 by_cases hva:vastB b=true
 ·
  replace F:=F.add hva
  refine W.seqR ?_
  refine oN 1 ?_
  refine oC [] ?_
  refine ct (vast_ok b) ?_
  refine oK [1,3,4,6,27] ?_
  refine cT ?_
  refine W.seqR ?_
  refine oC [] ?_
  refine ct (awake_ok) ?_
  refine oN 1 ?_
  refine oK [8] ?_
  refine W.ret ?_
  refine tr ?_
  clear hK1 K1
  exact er0 false [] []
 ·
  replace F:=F.add hva
  refine W.seqR ?_
  refine oN 1 ?_
  refine oC [] ?_
  refine ct (vast_ok b) ?_
  refine oK [1,3,4,6,27] ?_
  refine cF ?_
  refine W.skip ?_
  refine hK1 _ ?_
  clear hK1 K1
  refine W.seqR ?_
  refine oN 1 ?_
  refine oC [] ?_
  refine CallT.mk (DieOf_ok nums) (by simp [hva]) ?_
  obtain ⟨f,qf⟩:∃ f,nums.foldl dieStep 2611923443488327891=f:=⟨_,rfl⟩
  have hf:=qf
  replace F:=F.add hf
  refine WOps.norm (by simp [hva,hf]; rfl) ?_
  refine oN 1 ?_
  refine oK [1,4,6,9] ?_
  refine W.seqR ?_
  refine oN 1 ?_
  refine oC [(10000,240)] ?_
  refine CallT.mkE (BenchOf_ok f 4 2 3 5 (by omega) (by omega) (by omega) (by omega)) (fun z33 hz33=>⟨(by simp [hva,hf]), ?_⟩)
  refine WOps.norm (by simp [hva,hf]; rfl) ?_
  refine oN 9 ?_
  refine oK [1,4,6,9,10] ?_
  obtain ⟨⟨m,fc,hb⟩,g⟩:=z33
  obtain ⟨qmm,_,_⟩:=hz33
  have hM:MadeB m 4 2 3 5:=qmm
  have hm1:m.mas.length≤4:=hM.mas
  have hm2:m.wei.length≤3:=hM.wei
  have hm3:m.scl.length≤2:=hM.scl
  have hm4:m.tri.length≤3:=hM.tri
  replace F:=F.add hM |>.add hm1 |>.add hm2 |>.add hm3 |>.add hm4
  refine W.seqR ?_
  refine oN 1 ?_
  refine oC [] ?_
  refine ct (CopyBench_tri m (by omega) (by omega) (by omega) (by omega)) ?_
  refine oN 2 ?_
  refine oK [1,4,6,9,10,13] ?_
  refine rKw [1,4,9,10,13] ?_
  obtain ⟨c1,qc1⟩:∃ c,castV g (m.scl.length:Int)=c:=⟨_,rfl⟩
  have hc1v:=qc1
  obtain ⟨g1,qg1⟩:∃ c,castF g (m.scl.length:Int)=c:=⟨_,rfl⟩
  have hg1:=qg1
  obtain ⟨c2,qc2⟩:∃ c,castV g1 (m.scl.length:Int)=c:=⟨_,rfl⟩
  have hc2v:=qc2
  have htk:List.take (m.tri.length + 1) (List.map R4 m.tri ++ [AV.agg [I t.sc,I t.day,I t.ms,I t.sh]])=List.map R4 m.tri ++ [AV.agg [I t.sc,I t.day,I t.ms,I t.sh]]:=List.take_of_length_le (by simp)
  replace F:=F.add hc1v |>.add hg1 |>.add hc2v |>.add htk
  refine W.weaken (Le.freeze (id:=307) (by simp [hva,hf,hM,hm1,hm2,hm3,hm4,hc1v,hg1,hc2v,htk]; rfl)) ?_
  refine wD 19 [(10,[240]),(15,[240])] [[],[],[],[],[3,2,1,0],[],[],[],[7],[7,8],[8,7,9,6],[],[],[12],[12,13],[6,9,7,8,10,13,12,14,11],[],[16,11,14,12,13,15,6,9,7,8,10,5],[11,14,12,13,10,8,7,9,6,15,0,1,2,3,4],[4,3,2,1,0,18,5,10,8,7,9,6,15,13,12,14,11,16,17]] ?_
  refine dB [([46,47,48,50,51,52,53,54,55,56,57,58,59,60,61,62],[],[240,240]),([45,47,48,50,51,52,53,54,55,56,57,58,59,60,61,62],[false],[240,240]),([45,46,48,50,51,52,53,54,55,56,57,58,59,60,61,62],[false,false],[240,240]),([45,46,47,50,51,52,53,54,55,56,57,58,59,60,61,62],[false,false,false],[240,240]),([50,51,52,53,54,55,56,57,58,59,60,61,62],[true,true,true,true],[240,240]),([45,46,47,48,49,51,52,53,54,55,56,57,58,59,60,61,14],[false,false,false,false,false],[240,240]),([45,46,47,48,49,50,52,53,54,56,57,58,59,61],[false,false,false,false,false,false],[]),([45,46,47,48,49,50,51,56,57,58,59,61],[false,false,false,false,false,false,false],[]),([45,46,47,48,49,50,51,56,57,58,59,61],[false,false,false,false,false,false,false,true],[]),([45,46,47,48,49,50,51,56,57,58,59,61],[false,false,false,false,false,false,false,true,true],[])] 9 10 ?_
  refine dC [45,46,47,48,49,50,56,57,58,59,61] [false,false,false,false,false,false,true,true,true,true] [] [(10000,240)] ?_
  refine cd (Cast_ok g (m.scl.length:Int) (by omega)) ?_
  refine dB [([45,46,47,48,49,50,51,52,53,54,55,57,58,59,61],[false,false,false,false,false,false,false,false,false,false,false],[240]),([45,46,47,48,49,50,51,52,53,54,55,56,61],[false,false,false,false,false,false,false,false,false,false,false,false],[240]),([45,46,47,48,49,50,51,52,53,54,55,56,61],[false,false,false,false,false,false,false,false,false,false,false,false,true],[240]),([45,46,47,48,49,50,51,52,53,54,55,56,61],[false,false,false,false,false,false,false,false,false,false,false,false,true,true],[240])] 4 15 ?_
  refine dC [45,46,47,48,49,50,61] [false,false,false,false,false,false,true,true,true,true,true,true,true,true,true] [] [(10000,240)] ?_
  refine cd (Cast_ok g1 (m.scl.length:Int) (by omega)) ?_
  refine dB [([45,46,47,48,49,50,51,52,53,54,55,56,57,58,59,60,14],[false,false,false,false,false,false,false,false,false,false,false,false,false,false,false,false],[240,240]),([45,46,47,48,49,14],[false,false,false,false,false,true,true,true,true,true,true,true,true,true,true,true,true],[]),([50,61,62],[true,true,true,true,true,false,true,true,true,true,true,true,true,true,true,true,false,false],[])] 0 19 ?_
  refine dD ?_
  refine oN 1 ?_
  refine oK [14,15] ?_
  refine W.seqk fun K2 hK2=>?_
  obtain ⟨BS,qBS⟩:∃ BS,BS=[b,m,moreB m t,m]:=⟨_,rfl⟩
  obtain ⟨NS,qNS⟩:∃ NS,NS=[n,c1,c2,n]:=⟨_,rfl⟩
  have hBS:[benV b,benV m,.agg [masV m.mas,weiV m.wei,sclV m.scl,.imm (m.tri.map R4 ++ [.agg [I t.sc,I t.day,I t.ms,I t.sh]]),I m.days],benV m]=BS.map benV:=by rw [qBS]; simp [moreB]
  have hNS:[I n,I c1,I c2,I n]=NS.map I:=by rw [qNS]; rfl
  have hBSl:BS.length=4:=by rw [qBS]; rfl
  have hNSl:NS.length=4:=by rw [qNS]; rfl
  have qsm:∀ x∈BS,Small x:=fun x hx=>by
    rw [qBS] at hx
    simp only [List.mem_cons,List.not_mem_nil,or_false] at hx
    have q1:=vast_not hva
    have q2:=small_made hM (by omega) (by omega) (by omega)
    rcases hx with rfl | rfl | rfl | rfl
    · exact ⟨by omega,by omega,by omega,by omega⟩
    · exact q2
    · exact ⟨q2.1,q2.2.1,q2.2.2.1,by show (m.tri ++ [t]).length≤30; rw [len_snoc]; omega⟩
    · exact q2
  replace F:=F.add hBS |>.add hNS |>.add hBSl |>.add hNSl
  refine rK [14,15,16] ?_
  refine W.block ?_
  refine W.weaken Le.dedup ?_
  refine W.norm (by simp; rfl) ?_
  refine lpa (α:=Nat) [14,15] [17,65,73,76,84,93,105,109,114,129,135,144] [] (fun i=>[(16,I i)]) (fun i=>[]) (fun i=>i≤4) (fun i=>4 - i) 0 v0 ?_
  ·
   intro i hI0
   simp only [List.cons_append,List.nil_append]
   try dsimp only at hI0
   replace F:=F.add hI0
   refine W.seqk fun K3 hK3=>?_
   refine rK [14,15,16,66] ?_
   refine it (fun hc3=>?_) (fun hc3=>?_)
   ·
    try simp at hc3
    replace F:=F.add hc3
    refine W.skip ?_
    refine hK3 _ ?_
    clear hK3 K3
    refine W.seqk fun K4 hK4=>?_
    refine W.block ?_
    have hi4:i < 4:=by omega
    have hiB:i < BS.length:=by omega
    have hiN:i < NS.length:=by omega
    have qsi:=qsm _ (List.getElem_mem hiB)
    obtain ⟨C,qC⟩:∃ C,C=BS[i]:=⟨_,rfl⟩
    have hC:=qC.symm
    rw [← qC] at qsi
    obtain ⟨k,qk⟩:∃ k,k=NS[i]:=⟨_,rfl⟩
    have hk:=qk.symm
    have qsl:=qsi.len
    have ho1:=offL_same C
    have ho2:=offE_same C
    have he1:=errL_same C k
    have he2:=errE_same C k
    replace F:=F.add hi4 |>.add hiB |>.add hiN |>.add hC |>.add hk |>.add ho1 |>.add ho2 |>.add he1 |>.add he2
    refine W.seqR ?_
    refine oN 4 ?_
    refine oC [] ?_
    refine ct (CopyBench_imm C qsl.mas qsl.wei qsl.scl qsl.tri) ?_
    refine oN 2 ?_
    refine oK [14,15,16,17] ?_
    refine W.seqR ?_
    refine oN 1 ?_
    refine oC [] ?_
    refine ct (Offs_ok C qsl) ?_
    refine oN 5 ?_
    refine oK [14,15,16,17,18,19] ?_
    refine W.seqR ?_
    refine oN 4 ?_
    refine oC [] ?_
    refine ct (rOffs_ok C qsl) ?_
    refine oN 5 ?_
    refine oK [14,15,16,17,18,19,20,21] ?_
    refine wD 10 [] [[],[],[],[2,1],[1,2,3],[3,2,1,4,0],[0,4,1,2,3,5],[5,3,2,1,4,0,6],[5,3,2,1,4,0,6],[6,0,4,1,2,3,5,7],[7,9,6,0,4,1,2,3,5,8]] ?_
    refine dB [([89,90,91,92],[],[]),([88,90],[false],[]),([88,89],[false,false],[]),([88],[false,true,true],[]),([88],[false,true,true,true],[])] 5 5 ?_
    refine dC [] [true,true,true,true,true] [] [] ?_
    refine cd (Errors_ok C qsl k) ?_
    refine dB [([],[true,true,true,true,true,true],[]),([95],[true,true,true,true,true,true,true],[]),([94,22],[true,true,true,true,true,true,true,false],[]),([95],[true,true,true,true,true,true,true,true,false],[])] 0 10 ?_
    refine dD ?_
    refine oN 1 ?_
    refine oK [14,15,16,17,18,19,20,21,22,23] ?_
    refine wD 13 [] [[],[],[1,0],[0,1,2],[],[],[5,4],[4,5,6],[6,5,4,7,2,1,0,3],[3,0,1,2,7,4,5,6,8],[8,6,5,4,7,2,1,0,3,9],[8,6,5,4,7,2,1,0,3,9],[9,3,0,1,2,7,4,5,6,8,10],[10,12,9,3,0,1,2,7,4,5,6,8,11]] ?_
    refine dB [([98,101,102,103,104],[],[]),([97,101,102,103,104],[false],[]),([101,102,103,104],[true,true],[]),([101,102,103,104],[true,true,true],[]),([97,98,99,100,102],[false,false,false,false],[]),([97,98,99,100,101],[false,false,false,false,false],[]),([97,98,99,100],[false,false,false,false,true,true],[]),([97,98,99,100],[false,false,false,false,true,true,true],[])] 5 8 ?_
    refine dC [] [true,true,true,true,true,true,true,true] [] [] ?_
    refine cd (rErrors_ok C qsl k) ?_
    refine dB [([],[true,true,true,true,true,true,true,true,true],[]),([107],[true,true,true,true,true,true,true,true,true,true],[]),([106,24],[true,true,true,true,true,true,true,true,true,true,false],[]),([107],[true,true,true,true,true,true,true,true,true,true,true,false],[])] 0 13 ?_
    refine dD ?_
    refine oN 1 ?_
    refine oK [14,15,16,17,18,19,20,21,22,23,24,25] ?_
    refine wD 36 [] [[],[0],[],[],[3,2],[2,3,4],[0,1,4,3,2,5],[5,2,3,4,6,0,1],[1,0,6,4,3,2,5,7],[7,5,2,3,4,6,0,1,8],[7,5,2,3,4,6,0,1,8],[10,8,1,0,6,4,3,2,5,7,9],[9,10,11,7,5,2,3,4,6,0,1,8],[8,1,0,6,4,3,2,5,7,11,10,9,12],[12,9,10,11,7,5,2,3,4,6,0,1,8,13],[12,9,10,11,7,5,2,3,4,6,0,1,8,13],[15,13,8,1,0,6,4,3,2,5,7,11,10,9,12,14],[14,15,16,12,9,10,11,7,5,2,3,4,6,0,1,8,13],[13,8,1,0,6,4,3,2,5,7,11,10,9,12,16,15,14,17],[17,14,15,16,12,9,10,11,7,5,2,3,4,6,0,1,8,13,18],[17,14,15,16,12,9,10,11,7,5,2,3,4,6,0,1,8,13,18],[20,18,13,8,1,0,6,4,3,2,5,7,11,10,9,12,16,15,14,17,19],[19,17,14,15,16,12,9,10,11,7,5,2,3,4,6,0,1,8,13,18,20,21],[21,20,19,22,17,14,15,16,12,9,10,11,7,5,2,3,4,6,0,1,8,13,18],[18,13,8,1,0,6,4,3,2,5,7,11,10,9,12,16,15,14,17,22,19,20,21,23],[23,21,20,19,22,17,14,15,16,12,9,10,11,7,5,2,3,4,6,0,1,8,13,18,24],[23,21,20,19,22,17,14,15,16,12,9,10,11,7,5,2,3,4,6,0,1,8,13,18,24],[26,24,18,13,8,1,0,6,4,3,2,5,7,11,10,9,12,16,15,14,17,22,19,20,21,23,25],[25,23,21,20,19,22,17,14,15,16,12,9,10,11,7,5,2,3,4,6,0,1,8,13,18,24,26,27],[27,26,25,28,23,21,20,19,22,17,14,15,16,12,9,10,11,7,5,2,3,4,6,0,1,8,13,18,24],[24,18,13,8,1,0,6,4,3,2,5,7,11,10,9,12,16,15,14,17,22,19,20,21,23,28,25,26,27,29],[29,27,26,25,28,23,21,20,19,22,17,14,15,16,12,9,10,11,7,5,2,3,4,6,0,1,8,13,18,24,30],[29,27,26,25,28,23,21,20,19,22,17,14,15,16,12,9,10,11,7,5,2,3,4,6,0,1,8,13,18,24,30],[29,27,26,25,28,23,21,20,19,22,17,14,15,16,12,9,10,11,7,5,2,3,4,6,0,1,8,13,18,24,30],[33,30,24,18,13,8,1,0,6,4,3,2,5,7,11,10,9,12,16,15,14,17,22,19,20,21,23,28,25,26,27,29,32],[32,29,27,26,25,28,23,21,20,19,22,17,14,15,16,12,9,10,11,7,5,2,3,4,6,0,1,8,13,18,24,30,33,34],[34,33,32,35,30,24,18,13,8,1,0,6,4,3,2,5,7,11,10,9,12,16,15,14,17,22,19,20,21,23,28,25,26,27,29,31],[31,29,27,26,25,28,23,21,20,19,22,17,14,15,16,12,9,10,11,7,5,2,3,4,6,0,1,8,13,18,24,30,35,32,33,34,36],[36,34,33,32,35,31,37,29,27,26,25,28,23,21,20,19,22,17,14,15,16,12,9,10,11,7,5,2,3,4,6,0,1,8,13,18,24,30]] ?_
    refine dB [([110,111,112,113],[],[])] 35 1 ?_
    refine dC [110,111,112,113] [true] [] [] ?_
    refine cd (Check_ok C qsl) ?_
    refine dB [([108,109,111],[false,false],[]),([108,109,110],[false,false,false],[]),([108,109],[false,false,true,true],[]),([108,109],[false,false,true,true,true],[])] 30 6 ?_
    refine dC [] [true,true,true,true,true,true] [] [] ?_
    refine cd (rCheck_ok C ⟨qsl.mas,qsl.wei,qsl.scl,qsl.tri⟩) ?_
    refine dB [([],[true,true,true,true,true,true,true],[]),([],[true,true,true,true,true,true,true,true],[])] 27 9 ?_
    refine dT [118] [true,true,true,true,true,true,true,true,true] [] ?_
    refine dT [117] [true,true,true,true,true,true,true,true,true,false] [] ?_
    refine dT [] [true,true,true,true,true,true,true,true,true,true,true] [] ?_
    refine dB [([],[true,true,true,true,true,true,true,true,true,true,true,true],[]),([],[true,true,true,true,true,true,true,true,true,true,true,true,true],[])] 22 14 ?_
    refine dT [123] [true,true,true,true,true,true,true,true,true,true,true,true,true,true] [] ?_
    refine dT [122] [true,true,true,true,true,true,true,true,true,true,true,true,true,true,false] [] ?_
    refine dT [] [true,true,true,true,true,true,true,true,true,true,true,true,true,true,true,true] [] ?_
    refine dB [([],[true,true,true,true,true,true,true,true,true,true,true,true,true,true,true,true,true],[]),([],[true,true,true,true,true,true,true,true,true,true,true,true,true,true,true,true,true,true],[])] 17 19 ?_
    refine dT [128] [true,true,true,true,true,true,true,true,true,true,true,true,true,true,true,true,true,true,true] [] ?_
    refine dT [127] [true,true,true,true,true,true,true,true,true,true,true,true,true,true,true,true,true,true,true,false] [] ?_
    refine dG [] [true,true,true,true,true,true,true,true,true,true,true,true,true,true,true,true,true,true,true,true,true] [] [] ?_
    refine cd (SameSpans_ok (offsL C) (offsL C)) ?_
    refine dT [] [true,true,true,true,true,true,true,true,true,true,true,true,true,true,true,true,true,true,true,true,true,true] [] ?_
    refine dB [([],[true,true,true,true,true,true,true,true,true,true,true,true,true,true,true,true,true,true,true,true,true,true,true],[]),([],[true,true,true,true,true,true,true,true,true,true,true,true,true,true,true,true,true,true,true,true,true,true,true,true],[])] 11 25 ?_
    refine dT [134] [true,true,true,true,true,true,true,true,true,true,true,true,true,true,true,true,true,true,true,true,true,true,true,true,true] [] ?_
    refine dT [133] [true,true,true,true,true,true,true,true,true,true,true,true,true,true,true,true,true,true,true,true,true,true,true,true,true,false] [] ?_
    refine dG [] [true,true,true,true,true,true,true,true,true,true,true,true,true,true,true,true,true,true,true,true,true,true,true,true,true,true,true] [] [] ?_
    refine cd (SameSpans_ok (errsL C k) (errsL C k)) ?_
    refine dT [] [true,true,true,true,true,true,true,true,true,true,true,true,true,true,true,true,true,true,true,true,true,true,true,true,true,true,true,true] [] ?_
    refine dB [([],[true,true,true,true,true,true,true,true,true,true,true,true,true,true,true,true,true,true,true,true,true,true,true,true,true,true,true,true,true],[]),([],[true,true,true,true,true,true,true,true,true,true,true,true,true,true,true,true,true,true,true,true,true,true,true,true,true,true,true,true,true,true],[])] 5 31 ?_
    refine dT [140,141,142,143] [true,true,true,true,true,true,true,true,true,true,true,true,true,true,true,true,true,true,true,true,true,true,true,true,true,true,true,true,true,true,true] [] ?_
    refine dT [139,141] [true,true,true,true,true,true,true,true,true,true,true,true,true,true,true,true,true,true,true,true,true,true,true,true,true,true,true,true,true,true,true,false] [] ?_
    refine dT [139,140] [true,true,true,true,true,true,true,true,true,true,true,true,true,true,true,true,true,true,true,true,true,true,true,true,true,true,true,true,true,true,true,false,false] [] ?_
    refine dT [139] [true,true,true,true,true,true,true,true,true,true,true,true,true,true,true,true,true,true,true,true,true,true,true,true,true,true,true,true,true,true,true,false,true,true] [] ?_
    refine dT [139] [true,true,true,true,true,true,true,true,true,true,true,true,true,true,true,true,true,true,true,true,true,true,true,true,true,true,true,true,true,true,true,false,true,true,true] [] ?_
    refine dD ?_
    refine gC [] ?_
    refine ct (SameBenches_same C qsl.mas qsl.wei qsl.scl qsl.tri) ?_
    refine gT ?_
    refine oN 1 ?_
    refine oK [14,15,16,146] ?_
    refine cF ?_
    refine W.skip ?_
    refine hK4 _ ?_
    clear hK4 K4
    refine rEw ?_
    refine ⟨i + 1,lf0,v0,v0⟩
   ·
    try simp at hc3
    replace F:=F.add hc3
    refine W.exit ?_
    refine hK2 _ ?_
    clear hK3 K3 hK2 K2
    refine W.seqR ?_
    refine oC [] ?_
    refine ct (awake_ok) ?_
    refine oN 1 ?_
    refine oK [8] ?_
    refine W.ret ?_
    exact er0 false [] []
end Go.Sim
