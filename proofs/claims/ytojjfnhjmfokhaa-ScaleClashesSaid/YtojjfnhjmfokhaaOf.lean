/- Results that contradict each other: the law answers true. -/
import Derived.Test.YtojjfnhjmfokhaaLv
import Derived.Test.YtojjfnhjmfokhaaOb
namespace Go.Sim
open Go.Proofs
set_option maxRecDepth 100000
set_option linter.unusedSimpArgs false
set_option linter.unusedVariables false
attribute [-simp] List.map_set List.map_take List.map_drop
attribute [simp] spn_eta
set_option maxHeartbeats 4000000 in
theorem ScaleClashes_ok (b:Ben) (t:Tri) (nums:List Int):ACalls Try.prog 3 [benV b,R4 t,ints nums] [] (fun r o=>r=B true∧o=[]):=by
 have F:=Fx.nil
 refine ent Try.func3 Try.ntmps3 Try.results3 ?_
 refine rK [2,3,4] ?_
 refine W.seqk fun K1 hK1=>?_
 by_cases hva:vastB b=true
 ·
  replace F:=F.add hva
  refine W.seqR ?_
  refine oN 1 ?_
  refine oC [] ?_
  refine ct (vast_ok b) ?_
  refine oN 1 ?_
  refine gF ?_
  refine gF ?_
  refine gF ?_
  refine gF ?_
  refine gF ?_
  refine gF ?_
  refine gF ?_
  refine gF ?_
  refine gF ?_
  refine gF ?_
  refine gF ?_
  refine gF ?_
  refine gF ?_
  refine oN 1 ?_
  refine oK [2,3,4,34] ?_
  refine cT ?_
  refine W.seqR ?_
  refine oC [] ?_
  refine ct (awake_ok) ?_
  refine oN 1 ?_
  refine oK [6] ?_
  refine W.ret ?_
  refine tr ?_
  clear hK1 K1
  exact er0 false [] []
 ·
  replace F:=F.add hva
  have qvn:=vast_not hva
  have hwl9:b.wei.length≤20:=by omega
  have htl9:b.tri.length≤20:=by omega
  replace F:=F.add hwl9 |>.add htl9
  by_cases hsu:(7:Int)<(b.wei.length:Int)+(b.tri.length:Int)
  ·
   replace F:=F.add hsu
   by_cases hck:checkB b=0
   ·
    replace F:=F.add hck
    refine W.seqR ?_
    refine oN 1 ?_
    refine oC [] ?_
    refine ct (vast_ok b) ?_
    refine oN 1 ?_
    refine gT ?_
    refine gT ?_
    refine gT ?_
    refine gT ?_
    refine gT ?_
    refine gT ?_
    refine gTw ?_
    refine gT ?_
    refine gT ?_
    refine gT ?_
    refine gC [] ?_
    refine ct (rCheck_ok b (by have:=vast_not hva;omega)) ?_
    refine gT ?_
    refine gT ?_
    refine oN 1 ?_
    refine oK [2,3,4,34] ?_
    refine cT ?_
    refine W.seqR ?_
    refine oC [] ?_
    refine ct (awake_ok) ?_
    refine oN 1 ?_
    refine oK [6] ?_
    refine W.ret ?_
    refine tr ?_
    clear hK1 K1
    exact er0 false [] []
   ·
    replace F:=F.add hck
    have hckb:(checkB b==0)=false:=by simp [hck]
    replace F:=F.add hckb
    refine W.seqR ?_
    refine oN 1 ?_
    refine oC [] ?_
    refine ct (vast_ok b) ?_
    refine oN 1 ?_
    refine gT ?_
    refine gT ?_
    refine gT ?_
    refine gT ?_
    refine gT ?_
    refine gT ?_
    refine gTw ?_
    refine gT ?_
    refine gT ?_
    refine gT ?_
    refine gC [] ?_
    refine ct (rCheck_ok b (by have:=vast_not hva;omega)) ?_
    refine gT ?_
    refine gT ?_
    refine oN 1 ?_
    refine oK [2,3,4,34] ?_
    refine cF ?_
    refine W.skip ?_
    refine hK1 _ ?_
    clear hK1 K1
    refine W.seqR ?_
    refine oN 1 ?_
    refine oC [] ?_
    refine CallT.mk (DieOf_ok nums) (by simp [hva,hwl9,htl9,hsu,hck,hckb]) ?_
    obtain ⟨f,qf⟩:∃f,nums.foldl dieStep 2611923443488327891=f:=⟨_,rfl⟩
    have hf:=qf
    replace F:=F.add hf
    refine WOps.norm (by simp [hva,hwl9,htl9,hsu,hck,hckb,hf];rfl) ?_
    refine oC [(10000,304)] ?_
    refine CallT.mkE (BenchOf_ok f 3 2 3 3 (by omega) (by omega) (by omega) (by omega)) (fun z39 hz39=>⟨(by simp [hva,hwl9,htl9,hsu,hck,hckb,hf]), ?_⟩)
    refine WOps.norm (by simp [hva,hwl9,htl9,hsu,hck,hckb,hf];rfl) ?_
    refine oN 9 ?_
    refine oK [3,4,7] ?_
    obtain ⟨⟨m,fc,hb⟩,g⟩:=z39
    obtain ⟨qmm,_,_⟩:=hz39
    have hM:MadeB m 3 2 3 3:=qmm
    have hm1:m.mas.length≤3:=hM.mas
    have hm2:m.wei.length≤3:=hM.wei
    have hm3:m.scl.length≤2:=hM.scl
    have hm4:m.tri.length≤3:=hM.tri
    replace F:=F.add hM |>.add hm1 |>.add hm2 |>.add hm3 |>.add hm4
    refine W.seqR ?_
    refine oN 1 ?_
    refine oC [] ?_
    refine ct (CopyBench_tri m (by omega) (by omega) (by omega) (by omega)) ?_
    refine oN 2 ?_
    refine oK [3,4,7,10] ?_
    refine rKw [3,7,10] ?_
    have htk:List.take (m.tri.length+1) (List.map R4 m.tri++[AV.agg [I t.sc,I t.day,I t.ms,I t.sh]])=List.map R4 m.tri++[AV.agg [I t.sc,I t.day,I t.ms,I t.sh]]:=List.take_of_length_le (by simp)
    replace F:=F.add htk
    refine W.weaken (Le.freeze (id:=355) (by simp [hva,hwl9,htl9,hsu,hck,hckb,hf,hM,hm1,hm2,hm3,hm4,htk];rfl)) ?_
    refine rK [11] ?_
    refine W.seqk fun K2 hK2=>?_
    obtain ⟨BS,qBS⟩:∃BS,BS=[b,m,moreB m t]:=⟨_,rfl⟩
    have hBS:[benV b,benV m,.agg [masV m.mas,weiV m.wei,sclV m.scl,.imm (m.tri.map R4++[.agg [I t.sc,I t.day,I t.ms,I t.sh]]),I m.days]]=BS.map benV:=by rw [qBS];simp [moreB]
    have hBSl:BS.length=3:=by rw [qBS];rfl
    have qsm:∀x∈BS,Small x:=fun x hx=>by
      rw [qBS] at hx
      simp only [List.mem_cons,List.not_mem_nil,or_false] at hx
      have q2:=small_made hM (by omega) (by omega) (by omega)
      rcases hx with rfl | rfl | rfl
      · exact ⟨by omega,by omega,by omega,by omega⟩
      · exact q2
      · exact ⟨q2.1,q2.2.1,q2.2.2.1,by show (m.tri++[t]).length≤30;rw [len_snoc];omega⟩
    replace F:=F.add hBS |>.add hBSl
    refine rK [11,12] ?_
    refine W.block ?_
    refine lpa (α:=Nat) [11] [13,57,65,68,76,85,94] [] (fun i=>[(12,I i)]) (fun i=>[]) (fun i=>i≤3) (fun i=>3-i) 0 v0 ?_
    ·
     intro i hI0
     simp only [List.cons_append,List.nil_append]
     try dsimp only at hI0
     replace F:=F.add hI0
     refine W.seqk fun K3 hK3=>?_
     refine rK [11,12,58] ?_
     refine it (fun hc4=>?_) (fun hc4=>?_)
     ·
      try simp at hc4
      replace F:=F.add hc4
      refine W.skip ?_
      refine hK3 _ ?_
      clear hK3 K3
      refine W.seqk fun K4 hK4=>?_
      refine W.block ?_
      have hi3:i<3:=by omega
      have hiB:i<BS.length:=by omega
      have qsi:=qsm _ (List.getElem_mem hiB)
      obtain ⟨C,qC⟩:∃C,C=BS[i]:=⟨_,rfl⟩
      have hC:=qC.symm
      rw [←qC] at qsi
      have qsl:=qsi.len
      obtain ⟨l,ql⟩:∃l,rclL C=l:=⟨_,rfl⟩
      have hrl:=ql
      have hre:rclE C=clashE C:=(clash_same C).2.symm
      have qol:=(clash_same C).1
      rw [ql] at qol
      replace F:=F.add hi3 |>.add hiB |>.add hC |>.add hrl |>.add hre
      refine W.seqR ?_
      refine oN 4 ?_
      refine oC [] ?_
      refine ct (CopyBench_imm C qsl.mas qsl.wei qsl.scl qsl.tri) ?_
      refine oN 2 ?_
      refine oK [11,12,13] ?_
      by_cases hno:clashL C=none
      ·
       replace F:=F.add hno
       have hov:optV (clashL C) = .val (.slice none 0 0):=by rw [hno];rfl
       have hl0:l=[]:=by rw [hno] at qol;exact qol.symm
       replace F:=F.add hov |>.add hl0
       refine W.seqR ?_
       refine oN 1 ?_
       refine oC [] ?_
       refine ct (Clash_ok C qsl) ?_
       refine oN 5 ?_
       refine oK [11,12,13,14,15] ?_
       refine W.seqR ?_
       refine oN 4 ?_
       refine oC [] ?_
       refine ct (rClash_ok C qsl) ?_
       refine oN 5 ?_
       refine oK [11,12,13,14,15,16,17] ?_
       refine wD 15 [] [[],[],[1,0],[0,1,2],[2,1,0,3],[2,1,0,3],[5,3,0,1,2,4],[4,2,1,0,3,5,6],[6,5,4,7,2,1,0,3],[3,0,1,2,7,4,5,6,8],[8,6,5,4,7,2,1,0,3,9],[8,6,5,4,7,2,1,0,3,9],[8,6,5,4,7,2,1,0,3,9],[12,9,3,0,1,2,7,4,5,6,8,11],[11,8,6,5,4,7,2,1,0,3,9,12,13],[13,12,11,14,9,3,0,1,2,7,4,5,6,8,10],[10,8,6,5,4,7,2,1,0,3,9,14,11,12,13,15],[15,13,12,11,14,10,16,8,6,5,4,7,2,1,0,3,9]] ?_
       refine dB [([80],[],[]),([79],[false],[]),([],[true,true],[]),([],[true,true,true],[])] 11 4 ?_
       refine dT [84] [true,true,true,true] [] ?_
       refine dT [83] [true,true,true,true,false] [] ?_
       refine dG [] [true,true,true,true,true,true] [] [] ?_
       refine cd (SameInts_ok [] []) ?_
       refine dT [] [true,true,true,true,true,true,true] [] ?_
       refine dB [([],[true,true,true,true,true,true,true,true],[]),([],[true,true,true,true,true,true,true,true,true],[])] 5 10 ?_
       refine dT [90,91,92,93] [true,true,true,true,true,true,true,true,true,true] [] ?_
       refine dT [89,91] [true,true,true,true,true,true,true,true,true,true,false] [] ?_
       refine dT [89,90] [true,true,true,true,true,true,true,true,true,true,false,false] [] ?_
       refine dT [89] [true,true,true,true,true,true,true,true,true,true,false,true,true] [] ?_
       refine dT [89] [true,true,true,true,true,true,true,true,true,true,false,true,true,true] [] ?_
       refine dD ?_
       refine gC [] ?_
       refine ct (SameBenches_same C qsl.mas qsl.wei qsl.scl qsl.tri) ?_
       refine gT ?_
       refine oN 1 ?_
       refine oK [11,12,96] ?_
       refine cF ?_
       refine W.skip ?_
       refine hK4 _ ?_
       clear hK4 K4
       refine rEw ?_
       refine ⟨i+1,lf0,v0,v0⟩
      ·
       replace F:=F.add hno
       have hov:optV (clashL C) = .imm (l.map I):=by
         cases h:clashL C with
         | none=>exact absurd h hno
         | some x=>rw [h] at qol;rw [show x=l from qol];rfl
       replace F:=F.add hov
       refine W.seqR ?_
       refine oN 1 ?_
       refine oC [] ?_
       refine ct (Clash_ok C qsl) ?_
       refine oN 5 ?_
       refine oK [11,12,13,14,15] ?_
       refine W.seqR ?_
       refine oN 4 ?_
       refine oC [] ?_
       refine ct (rClash_ok C qsl) ?_
       refine oN 5 ?_
       refine oK [11,12,13,14,15,16,17] ?_
       refine wD 15 [] [[],[],[1,0],[0,1,2],[2,1,0,3],[2,1,0,3],[5,3,0,1,2,4],[4,2,1,0,3,5,6],[6,5,4,7,2,1,0,3],[3,0,1,2,7,4,5,6,8],[8,6,5,4,7,2,1,0,3,9],[8,6,5,4,7,2,1,0,3,9],[8,6,5,4,7,2,1,0,3,9],[12,9,3,0,1,2,7,4,5,6,8,11],[11,8,6,5,4,7,2,1,0,3,9,12,13],[13,12,11,14,9,3,0,1,2,7,4,5,6,8,10],[10,8,6,5,4,7,2,1,0,3,9,14,11,12,13,15],[15,13,12,11,14,10,16,8,6,5,4,7,2,1,0,3,9]] ?_
       refine dB [([80],[],[]),([79],[false],[]),([],[true,true],[]),([],[true,true,true],[])] 11 4 ?_
       refine dT [84] [true,true,true,true] [] ?_
       refine dT [83] [true,true,true,true,false] [] ?_
       refine dG [] [true,true,true,true,true,true] [] [] ?_
       refine cd (SameInts_ok l l) ?_
       refine dT [] [true,true,true,true,true,true,true] [] ?_
       refine dB [([],[true,true,true,true,true,true,true,true],[]),([],[true,true,true,true,true,true,true,true,true],[])] 5 10 ?_
       refine dT [90,91,92,93] [true,true,true,true,true,true,true,true,true,true] [] ?_
       refine dT [89,91] [true,true,true,true,true,true,true,true,true,true,false] [] ?_
       refine dT [89,90] [true,true,true,true,true,true,true,true,true,true,false,false] [] ?_
       refine dT [89] [true,true,true,true,true,true,true,true,true,true,false,true,true] [] ?_
       refine dT [89] [true,true,true,true,true,true,true,true,true,true,false,true,true,true] [] ?_
       refine dD ?_
       refine gC [] ?_
       refine ct (SameBenches_same C qsl.mas qsl.wei qsl.scl qsl.tri) ?_
       refine gT ?_
       refine oN 1 ?_
       refine oK [11,12,96] ?_
       refine cF ?_
       refine W.skip ?_
       refine hK4 _ ?_
       clear hK4 K4
       refine rEw ?_
       refine ⟨i+1,lf0,v0,v0⟩
     ·
      try simp at hc4
      replace F:=F.add hc4
      refine W.exit ?_
      refine hK2 _ ?_
      clear hK3 K3 hK2 K2
      refine W.seqR ?_
      refine oC [] ?_
      refine ct (awake_ok) ?_
      refine oN 1 ?_
      refine oK [6] ?_
      refine W.ret ?_
      exact er0 false [] []
  ·
   replace F:=F.add hsu
   refine W.seqR ?_
   refine oN 1 ?_
   refine oC [] ?_
   refine ct (vast_ok b) ?_
   refine oN 1 ?_
   refine gT ?_
   refine gT ?_
   refine gT ?_
   refine gT ?_
   refine gT ?_
   refine gT ?_
   refine gTw ?_
   refine gT ?_
   refine gT ?_
   refine gF ?_
   refine gF ?_
   refine gF ?_
   refine gT ?_
   refine oN 1 ?_
   refine oK [2,3,4,34] ?_
   refine cF ?_
   refine W.skip ?_
   refine hK1 _ ?_
   clear hK1 K1
   refine W.seqR ?_
   refine oN 1 ?_
   refine oC [] ?_
   refine CallT.mk (DieOf_ok nums) (by simp [hva,hwl9,htl9,hsu]) ?_
   obtain ⟨f,qf⟩:∃f,nums.foldl dieStep 2611923443488327891=f:=⟨_,rfl⟩
   have hf:=qf
   replace F:=F.add hf
   refine WOps.norm (by simp [hva,hwl9,htl9,hsu,hf];rfl) ?_
   refine oC [(10000,304)] ?_
   refine CallT.mkE (BenchOf_ok f 3 2 3 3 (by omega) (by omega) (by omega) (by omega)) (fun z39 hz39=>⟨(by simp [hva,hwl9,htl9,hsu,hf]), ?_⟩)
   refine WOps.norm (by simp [hva,hwl9,htl9,hsu,hf];rfl) ?_
   refine oN 9 ?_
   refine oK [3,4,7] ?_
   obtain ⟨⟨m,fc,hb⟩,g⟩:=z39
   obtain ⟨qmm,_,_⟩:=hz39
   have hM:MadeB m 3 2 3 3:=qmm
   have hm1:m.mas.length≤3:=hM.mas
   have hm2:m.wei.length≤3:=hM.wei
   have hm3:m.scl.length≤2:=hM.scl
   have hm4:m.tri.length≤3:=hM.tri
   replace F:=F.add hM |>.add hm1 |>.add hm2 |>.add hm3 |>.add hm4
   refine W.seqR ?_
   refine oN 1 ?_
   refine oC [] ?_
   refine ct (CopyBench_tri m (by omega) (by omega) (by omega) (by omega)) ?_
   refine oN 2 ?_
   refine oK [3,4,7,10] ?_
   refine rKw [3,7,10] ?_
   have htk:List.take (m.tri.length+1) (List.map R4 m.tri++[AV.agg [I t.sc,I t.day,I t.ms,I t.sh]])=List.map R4 m.tri++[AV.agg [I t.sc,I t.day,I t.ms,I t.sh]]:=List.take_of_length_le (by simp)
   replace F:=F.add htk
   refine W.weaken (Le.freeze (id:=355) (by simp [hva,hwl9,htl9,hsu,hf,hM,hm1,hm2,hm3,hm4,htk];rfl)) ?_
   refine rK [11] ?_
   refine W.seqk fun K5 hK5=>?_
   obtain ⟨BS,qBS⟩:∃BS,BS=[b,m,moreB m t]:=⟨_,rfl⟩
   have hBS:[benV b,benV m,.agg [masV m.mas,weiV m.wei,sclV m.scl,.imm (m.tri.map R4++[.agg [I t.sc,I t.day,I t.ms,I t.sh]]),I m.days]]=BS.map benV:=by rw [qBS];simp [moreB]
   have hBSl:BS.length=3:=by rw [qBS];rfl
   have qsm:∀x∈BS,Small x:=fun x hx=>by
     rw [qBS] at hx
     simp only [List.mem_cons,List.not_mem_nil,or_false] at hx
     have q2:=small_made hM (by omega) (by omega) (by omega)
     rcases hx with rfl | rfl | rfl
     · exact ⟨by omega,by omega,by omega,by omega⟩
     · exact q2
     · exact ⟨q2.1,q2.2.1,q2.2.2.1,by show (m.tri++[t]).length≤30;rw [len_snoc];omega⟩
   replace F:=F.add hBS |>.add hBSl
   refine rK [11,12] ?_
   refine W.block ?_
   refine lpa (α:=Nat) [11] [13,57,65,68,76,85,94] [] (fun i=>[(12,I i)]) (fun i=>[]) (fun i=>i≤3) (fun i=>3-i) 0 v0 ?_
   ·
    intro i hI0
    simp only [List.cons_append,List.nil_append]
    try dsimp only at hI0
    replace F:=F.add hI0
    refine W.seqk fun K6 hK6=>?_
    refine rK [11,12,58] ?_
    refine it (fun hc8=>?_) (fun hc8=>?_)
    ·
     try simp at hc8
     replace F:=F.add hc8
     refine W.skip ?_
     refine hK6 _ ?_
     clear hK6 K6
     refine W.seqk fun K7 hK7=>?_
     refine W.block ?_
     have hi3:i<3:=by omega
     have hiB:i<BS.length:=by omega
     have qsi:=qsm _ (List.getElem_mem hiB)
     obtain ⟨C,qC⟩:∃C,C=BS[i]:=⟨_,rfl⟩
     have hC:=qC.symm
     rw [←qC] at qsi
     have qsl:=qsi.len
     obtain ⟨l,ql⟩:∃l,rclL C=l:=⟨_,rfl⟩
     have hrl:=ql
     have hre:rclE C=clashE C:=(clash_same C).2.symm
     have qol:=(clash_same C).1
     rw [ql] at qol
     replace F:=F.add hi3 |>.add hiB |>.add hC |>.add hrl |>.add hre
     refine W.seqR ?_
     refine oN 4 ?_
     refine oC [] ?_
     refine ct (CopyBench_imm C qsl.mas qsl.wei qsl.scl qsl.tri) ?_
     refine oN 2 ?_
     refine oK [11,12,13] ?_
     by_cases hno:clashL C=none
     ·
      replace F:=F.add hno
      have hov:optV (clashL C) = .val (.slice none 0 0):=by rw [hno];rfl
      have hl0:l=[]:=by rw [hno] at qol;exact qol.symm
      replace F:=F.add hov |>.add hl0
      refine W.seqR ?_
      refine oN 1 ?_
      refine oC [] ?_
      refine ct (Clash_ok C qsl) ?_
      refine oN 5 ?_
      refine oK [11,12,13,14,15] ?_
      refine W.seqR ?_
      refine oN 4 ?_
      refine oC [] ?_
      refine ct (rClash_ok C qsl) ?_
      refine oN 5 ?_
      refine oK [11,12,13,14,15,16,17] ?_
      refine wD 15 [] [[],[],[1,0],[0,1,2],[2,1,0,3],[2,1,0,3],[5,3,0,1,2,4],[4,2,1,0,3,5,6],[6,5,4,7,2,1,0,3],[3,0,1,2,7,4,5,6,8],[8,6,5,4,7,2,1,0,3,9],[8,6,5,4,7,2,1,0,3,9],[8,6,5,4,7,2,1,0,3,9],[12,9,3,0,1,2,7,4,5,6,8,11],[11,8,6,5,4,7,2,1,0,3,9,12,13],[13,12,11,14,9,3,0,1,2,7,4,5,6,8,10],[10,8,6,5,4,7,2,1,0,3,9,14,11,12,13,15],[15,13,12,11,14,10,16,8,6,5,4,7,2,1,0,3,9]] ?_
      refine dB [([80],[],[]),([79],[false],[]),([],[true,true],[]),([],[true,true,true],[])] 11 4 ?_
      refine dT [84] [true,true,true,true] [] ?_
      refine dT [83] [true,true,true,true,false] [] ?_
      refine dG [] [true,true,true,true,true,true] [] [] ?_
      refine cd (SameInts_ok [] []) ?_
      refine dT [] [true,true,true,true,true,true,true] [] ?_
      refine dB [([],[true,true,true,true,true,true,true,true],[]),([],[true,true,true,true,true,true,true,true,true],[])] 5 10 ?_
      refine dT [90,91,92,93] [true,true,true,true,true,true,true,true,true,true] [] ?_
      refine dT [89,91] [true,true,true,true,true,true,true,true,true,true,false] [] ?_
      refine dT [89,90] [true,true,true,true,true,true,true,true,true,true,false,false] [] ?_
      refine dT [89] [true,true,true,true,true,true,true,true,true,true,false,true,true] [] ?_
      refine dT [89] [true,true,true,true,true,true,true,true,true,true,false,true,true,true] [] ?_
      refine dD ?_
      refine gC [] ?_
      refine ct (SameBenches_same C qsl.mas qsl.wei qsl.scl qsl.tri) ?_
      refine gT ?_
      refine oN 1 ?_
      refine oK [11,12,96] ?_
      refine cF ?_
      refine W.skip ?_
      refine hK7 _ ?_
      clear hK7 K7
      refine rEw ?_
      refine ⟨i+1,lf0,v0,v0⟩
     ·
      replace F:=F.add hno
      have hov:optV (clashL C) = .imm (l.map I):=by
        cases h:clashL C with
        | none=>exact absurd h hno
        | some x=>rw [h] at qol;rw [show x=l from qol];rfl
      replace F:=F.add hov
      refine W.seqR ?_
      refine oN 1 ?_
      refine oC [] ?_
      refine ct (Clash_ok C qsl) ?_
      refine oN 5 ?_
      refine oK [11,12,13,14,15] ?_
      refine W.seqR ?_
      refine oN 4 ?_
      refine oC [] ?_
      refine ct (rClash_ok C qsl) ?_
      refine oN 5 ?_
      refine oK [11,12,13,14,15,16,17] ?_
      refine wD 15 [] [[],[],[1,0],[0,1,2],[2,1,0,3],[2,1,0,3],[5,3,0,1,2,4],[4,2,1,0,3,5,6],[6,5,4,7,2,1,0,3],[3,0,1,2,7,4,5,6,8],[8,6,5,4,7,2,1,0,3,9],[8,6,5,4,7,2,1,0,3,9],[8,6,5,4,7,2,1,0,3,9],[12,9,3,0,1,2,7,4,5,6,8,11],[11,8,6,5,4,7,2,1,0,3,9,12,13],[13,12,11,14,9,3,0,1,2,7,4,5,6,8,10],[10,8,6,5,4,7,2,1,0,3,9,14,11,12,13,15],[15,13,12,11,14,10,16,8,6,5,4,7,2,1,0,3,9]] ?_
      refine dB [([80],[],[]),([79],[false],[]),([],[true,true],[]),([],[true,true,true],[])] 11 4 ?_
      refine dT [84] [true,true,true,true] [] ?_
      refine dT [83] [true,true,true,true,false] [] ?_
      refine dG [] [true,true,true,true,true,true] [] [] ?_
      refine cd (SameInts_ok l l) ?_
      refine dT [] [true,true,true,true,true,true,true] [] ?_
      refine dB [([],[true,true,true,true,true,true,true,true],[]),([],[true,true,true,true,true,true,true,true,true],[])] 5 10 ?_
      refine dT [90,91,92,93] [true,true,true,true,true,true,true,true,true,true] [] ?_
      refine dT [89,91] [true,true,true,true,true,true,true,true,true,true,false] [] ?_
      refine dT [89,90] [true,true,true,true,true,true,true,true,true,true,false,false] [] ?_
      refine dT [89] [true,true,true,true,true,true,true,true,true,true,false,true,true] [] ?_
      refine dT [89] [true,true,true,true,true,true,true,true,true,true,false,true,true,true] [] ?_
      refine dD ?_
      refine gC [] ?_
      refine ct (SameBenches_same C qsl.mas qsl.wei qsl.scl qsl.tri) ?_
      refine gT ?_
      refine oN 1 ?_
      refine oK [11,12,96] ?_
      refine cF ?_
      refine W.skip ?_
      refine hK7 _ ?_
      clear hK7 K7
      refine rEw ?_
      refine ⟨i+1,lf0,v0,v0⟩
    ·
     try simp at hc8
     replace F:=F.add hc8
     refine W.exit ?_
     refine hK5 _ ?_
     clear hK6 K6 hK5 K5
     refine W.seqR ?_
     refine oC [] ?_
     refine ct (awake_ok) ?_
     refine oN 1 ?_
     refine oK [6] ?_
     refine W.ret ?_
     exact er0 false [] []
end Go.Sim
