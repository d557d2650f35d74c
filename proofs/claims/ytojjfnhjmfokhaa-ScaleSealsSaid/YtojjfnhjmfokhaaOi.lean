/- How long a seal lasts, and plans: the law answers true. -/
import Derived.Test.YtojjfnhjmfokhaaLz
import Derived.Test.YtojjfnhjmfokhaaLy
import Derived.Test.YtojjfnhjmfokhaaLn
import Derived.Test.YtojjfnhjmfokhaaLo
namespace Go.Sim
open Go.Proofs
set_option maxRecDepth 100000
set_option linter.unusedSimpArgs false
set_option linter.unusedVariables false
attribute [-simp] List.map_set List.map_take List.map_drop
attribute [simp] spn_eta T2_def T2_isData
instance:NthD Sls:=⟨⟨[],[],0,0⟩⟩
set_option maxHeartbeats 4000000 in
theorem ScaleSeals_ok (a d:Spn) (lim:Int) (s:Sls) (nums:List Int):ACalls Try.prog 4 [spnV a,spnV d,I lim,slsV s,ints nums] [] (fun r o=>r=B true∧o=[]):=by
 have F:=Fx.nil
 refine ent Try.func4 Try.ntmps4 Try.results4 ?_
 refine rK [2,4,5,6,8] ?_
 refine W.seqk fun K1 hK1=>?_
 by_cases hl1:(20:Int)<(s.lef.length:Int)
 ·
  replace F:=F.add hl1
  refine W.seqR ?_
  refine oN 5 ?_
  refine gF ?_
  refine gF ?_
  refine gF ?_
  refine gF ?_
  refine oN 2 ?_
  refine gF ?_
  refine gF ?_
  refine gF ?_
  refine gF ?_
  refine gF ?_
  refine gF ?_
  refine gF ?_
  refine gF ?_
  refine gF ?_
  refine gF ?_
  refine gF ?_
  refine gF ?_
  refine gF ?_
  refine gF ?_
  refine oN 1 ?_
  refine oK [2,4,5,6,8,52] ?_
  refine cT ?_
  refine W.seqR ?_
  refine oC [] ?_
  refine ct (awake_ok) ?_
  refine oN 1 ?_
  refine oK [10] ?_
  refine W.ret ?_
  refine tr ?_
  clear hK1 K1
  exact er0 false [] []
 ·
  replace F:=F.add hl1
  by_cases hl2:(20:Int)<(s.eve.length:Int)
  ·
   replace F:=F.add hl2
   refine W.seqR ?_
   refine oN 5 ?_
   refine gT ?_
   refine gT ?_
   refine gT ?_
   refine gT ?_
   refine oN 2 ?_
   refine gF ?_
   refine gF ?_
   refine gF ?_
   refine gF ?_
   refine gF ?_
   refine gF ?_
   refine gF ?_
   refine gF ?_
   refine gF ?_
   refine gF ?_
   refine gF ?_
   refine gF ?_
   refine gF ?_
   refine gF ?_
   refine oN 1 ?_
   refine oK [2,4,5,6,8,52] ?_
   refine cT ?_
   refine W.seqR ?_
   refine oC [] ?_
   refine ct (awake_ok) ?_
   refine oN 1 ?_
   refine oK [10] ?_
   refine W.ret ?_
   refine tr ?_
   clear hK1 K1
   exact er0 false [] []
  ·
   replace F:=F.add hl2
   by_cases hck:seaC s=0
   ·
    replace F:=F.add hck
    by_cases hl3:(2:Int)<(s.lef.length:Int)
    ·
     replace F:=F.add hl3
     refine W.seqR ?_
     refine oN 5 ?_
     refine gT ?_
     refine gT ?_
     refine gT ?_
     refine gT ?_
     refine oN 2 ?_
     refine gT ?_
     refine gC [] ?_
     refine ct (rseaC_ok s (by omega) (by omega)) ?_
     refine gT ?_
     refine gT ?_
     refine gT ?_
     refine gT ?_
     refine gT ?_
     refine gT ?_
     refine gT ?_
     refine gF ?_
     refine gF ?_
     refine gF ?_
     refine gT ?_
     refine gT ?_
     refine oN 1 ?_
     refine oK [2,4,5,6,8,52] ?_
     refine cT ?_
     refine W.seqR ?_
     refine oC [] ?_
     refine ct (awake_ok) ?_
     refine oN 1 ?_
     refine oK [10] ?_
     refine W.ret ?_
     refine tr ?_
     clear hK1 K1
     exact er0 false [] []
    ·
     replace F:=F.add hl3
     by_cases hl4:5<s.days
     ·
      replace F:=F.add hl4
      refine W.seqR ?_
      refine oN 5 ?_
      refine gT ?_
      refine gT ?_
      refine gT ?_
      refine gT ?_
      refine oN 2 ?_
      refine gT ?_
      refine gC [] ?_
      refine ct (rseaC_ok s (by omega) (by omega)) ?_
      refine gT ?_
      refine gT ?_
      refine gT ?_
      refine gT ?_
      refine gT ?_
      refine gT ?_
      refine gT ?_
      refine gT ?_
      refine gT ?_
      refine gT ?_
      refine gT ?_
      refine gT ?_
      refine oN 1 ?_
      refine oK [2,4,5,6,8,52] ?_
      refine cT ?_
      refine W.seqR ?_
      refine oC [] ?_
      refine ct (awake_ok) ?_
      refine oN 1 ?_
      refine oK [10] ?_
      refine W.ret ?_
      refine tr ?_
      clear hK1 K1
      exact er0 false [] []
     ·
      replace F:=F.add hl4
      refine W.seqR ?_
      refine oN 5 ?_
      refine gT ?_
      refine gT ?_
      refine gT ?_
      refine gT ?_
      refine oN 2 ?_
      refine gT ?_
      refine gC [] ?_
      refine ct (rseaC_ok s (by omega) (by omega)) ?_
      refine gT ?_
      refine gT ?_
      refine gT ?_
      refine gT ?_
      refine gT ?_
      refine gT ?_
      refine gT ?_
      refine gT ?_
      refine gT ?_
      refine gT ?_
      refine gT ?_
      refine gT ?_
      refine oN 1 ?_
      refine oK [2,4,5,6,8,52] ?_
      refine cF ?_
      refine W.skip ?_
      refine hK1 _ ?_
      clear hK1 K1
      refine W.seqR ?_
      refine oN 1 ?_
      refine oC [] ?_
      refine CallT.mk (DieOf_ok nums) (by simp [hl1,hl2,hck,hl3,hl4]) ?_
      obtain ⟨f,qf⟩:∃f,nums.foldl dieStep 2611923443488327891=f:=⟨_,rfl⟩
      have hf:=qf
      replace F:=F.add hf
      refine WOps.norm (by simp [hl1,hl2,hck,hl3,hl4,hf];rfl) ?_
      refine oN 1 ?_
      refine oK [2,5,6,8,11] ?_
      obtain ⟨a1,qa1⟩:∃x,spnD f (-9) 9=x:=⟨_,rfl⟩
      have ha1:=qa1
      obtain ⟨g1,qg1⟩:∃x,spnF f (-9) 9=x:=⟨_,rfl⟩
      have hg1:=qg1
      obtain ⟨d1,qd1⟩:∃x,spnD g1 (-3) 3=x:=⟨_,rfl⟩
      have hd1:=qd1
      obtain ⟨g2,qg2⟩:∃x,spnF g1 (-3) 3=x:=⟨_,rfl⟩
      have hg2:=qg2
      obtain ⟨d2,qd2⟩:∃x,spnD g2 (-3) 3=x:=⟨_,rfl⟩
      have hd2:=qd2
      obtain ⟨g3,qg3⟩:∃x,spnF g2 (-3) 3=x:=⟨_,rfl⟩
      have hg3:=qg3
      obtain ⟨c1,qc1⟩:∃x,castV g3 40=x:=⟨_,rfl⟩
      have hc1v:=qc1
      obtain ⟨g4,qg4⟩:∃x,castF g3 40=x:=⟨_,rfl⟩
      have hg4:=qg4
      replace F:=F.add ha1 |>.add hg1 |>.add hd1 |>.add hg2 |>.add hd2 |>.add hg3 |>.add hc1v |>.add hg4
      refine wD 18 [(2,[440]),(7,[440]),(9,[440]),(13,[440])] [[],[],[1],[],[3,1,2,0],[],[],[1,2,6],[],[6,2,1,7,8],[8,9,6,2,1,7,5],[],[],[8,7,1,2,6,9,12],[],[14,12,9,6,2,1,7,8,13,11],[12,9,6,7,8,13,0,2,1,3,4],[4,3,0,13,12,16,5,7,1,2,6,9,8,10],[10,5,16,0,3,4,17,11,13,8,7,1,2,6,9,12,14,15]] ?_
      refine dB [([57,58,59,61,62,63,64,65,66,67,68,69,70,71],[],[440,440,440,440]),([56,59,61,62,64,67,68,70],[false],[])] 16 2 ?_
      refine dC [56,59,61,62,64,67,68,70] [false,true] [] [(10000,440)] ?_
      refine cd (Span_ok f (-9) 9 (by omega) (by omega) (by omega)) ?_
      refine dB [([56,57,58,61,62,63,64,65,66,67,68,69,70,71],[false,false,false],[440,440,440,440]),([61,62,63,64,65,66,67,68,69,70,71],[true,true,true,true],[440,440,440]),([56,57,58,59,60,62,63,64,65,67,68,69,70,71,12],[false,false,false,false,false],[440,440,440,440]),([56,57,58,59,60,61,64,67,68,70],[false,false,false,false,false,false],[440])] 11 7 ?_
      refine dC [56,59,60,61,64,67,68,70] [false,true,true,false,false,false,true] [] [(10000,440)] ?_
      refine cd (Span_ok g1 (-3) 3 (by omega) (by omega) (by omega)) ?_
      refine dB [([56,57,58,59,60,61,62,63,67,68,70],[false,false,false,false,false,false,false,false],[440,440])] 9 9 ?_
      refine dC [56,59,60,61,67,68,70] [false,true,true,false,false,false,true,true,true] [] [(10000,440)] ?_
      refine cd (Span_ok g2 (-3) 3 (by omega) (by omega) (by omega)) ?_
      refine dB [([56,59,60,67,68,69,70,71,12],[false,true,true,false,false,true,true,true,true,true],[440]),([56,57,58,59,60,61,62,63,64,65,66,68,69,70,12,13],[false,false,false,false,false,false,false,false,false,false,false],[440,440,440,440]),([56,57,58,59,60,61,62,63,64,65,66,67,70],[false,false,false,false,false,false,false,false,false,false,false,false],[440,440,440])] 5 13 ?_
      refine dC [56,59,60,61,66,67,70] [false,true,true,false,false,false,true,true,true,true,false,false,true] [] [(10000,440)] ?_
      refine cd (Cast_ok g3 40 (by omega)) ?_
      refine dB [([56,57,58,59,60,61,62,63,64,65,66,67,68,69,12,13],[false,false,false,false,false,false,false,false,false,false,false,false,false,false],[440,440,440,440]),([56,59,60,61,66,12,13],[false,true,true,false,false,false,true,true,true,true,false,true,true,true,true],[]),([61,66,67,70,71],[true,true,true,true,true,false,true,true,true,true,false,false,true,true,false,false],[]),([67,70,71],[true,true,true,true,true,true,true,true,true,true,true,false,true,true,false,false,true],[])] 0 18 ?_
      refine dD ?_
      refine oN 1 ?_
      refine oK [8,11,12,13,14] ?_
      refine W.seqk fun K2 hK2=>?_
      obtain ⟨AS,qAS⟩:∃L,L=[a,a1,a]:=⟨_,rfl⟩
      obtain ⟨DS,qDS⟩:∃L,L=[d,d1,d2]:=⟨_,rfl⟩
      obtain ⟨LS,qLS⟩:∃L,L=[lim,c1,lim]:=⟨_,rfl⟩
      have hAS:[AV.agg [I a.lo,I a.hi],AV.agg [I a1.lo,I a1.hi],AV.agg [I a.lo,I a.hi]]=AS.map S2:=by rw [qAS];rfl
      have hDS:[AV.agg [I d.lo,I d.hi],AV.agg [I d1.lo,I d1.hi],AV.agg [I d2.lo,I d2.hi]]=DS.map S2:=by rw [qDS];rfl
      have hLS:[I lim,I c1,I lim]=LS.map I:=by rw [qLS];rfl
      have hASl:AS.length=3:=by rw [qAS];rfl
      have hDSl:DS.length=3:=by rw [qDS];rfl
      have hLSl:LS.length=3:=by rw [qLS];rfl
      replace F:=F.add hAS |>.add hDS |>.add hLS |>.add hASl |>.add hDSl |>.add hLSl
      refine rK [8,11,12,13,14,15] ?_
      refine W.block ?_
      refine W.weaken Le.dedup ?_
      refine W.norm (by simp;rfl) ?_
      refine lpa (α:=Nat) [8,11,12,13,14] [74,91,107] [] (fun i=>[(15,I i)]) (fun i=>[]) (fun i=>i≤3) (fun i=>3-i) 0 v0 ?_
      ·
       intro i hI0
       simp only [List.cons_append,List.nil_append]
       try dsimp only at hI0
       replace F:=F.add hI0
       refine W.seqk fun K3 hK3=>?_
       refine rK [8,11,12,13,14,15,75] ?_
       refine it (fun hc6=>?_) (fun hc6=>?_)
       ·
        try simp at hc6
        replace F:=F.add hc6
        refine W.skip ?_
        refine hK3 _ ?_
        clear hK3 K3
        refine W.seqk fun K4 hK4=>?_
        refine W.block ?_
        have hi3:i<3:=by omega
        have hiA:i<AS.length:=by omega
        have hiD:i<DS.length:=by omega
        have hiL:i<LS.length:=by omega
        replace F:=F.add hi3 |>.add hiA |>.add hiD |>.add hiL
        refine wD 17 [] [[],[],[1,0],[0,1,2],[],[],[5,4],[4,5,6],[],[],[9,8],[8,9,10],[10,9,8,11,6,5,4,7,2,1,0,3],[3,0,1,2,7,4,5,6,11,8,9,10,12],[12,10,9,8,11,6,5,4,7,2,1,0,3,13],[12,10,9,8,11,6,5,4,7,2,1,0,3,13],[13,3,0,1,2,7,4,5,6,11,8,9,10,12,14],[14,16,13,3,0,1,2,7,4,5,6,11,8,9,10,12,15]] ?_
        refine dB [([80,83,84,85,86,87,88,89,90],[],[]),([79,83,84,85,86,87,88,89,90],[false],[]),([83,84,85,86,87,88,89,90],[true,true],[]),([83,84,85,86,87,88,89,90],[true,true,true],[]),([79,80,81,82,84,87,88,89,90],[false,false,false,false],[]),([79,80,81,82,83,87,88,89,90],[false,false,false,false,false],[]),([79,80,81,82,87,88,89,90],[false,false,false,false,true,true],[]),([79,80,81,82,87,88,89,90],[false,false,false,false,true,true,true],[]),([79,80,81,82,83,84,85,86,88],[false,false,false,false,false,false,false,false],[]),([79,80,81,82,83,84,85,86,87],[false,false,false,false,false,false,false,false,false],[]),([79,80,81,82,83,84,85,86],[false,false,false,false,false,false,false,false,true,true],[]),([79,80,81,82,83,84,85,86],[false,false,false,false,false,false,false,false,true,true,true],[])] 5 12 ?_
        refine dC [] [true,true,true,true,true,true,true,true,true,true,true,true] [] [] ?_
        refine cd (Lasts_ok AS[i] DS[i] LS[i]) ?_
        refine dB [([],[true,true,true,true,true,true,true,true,true,true,true,true,true],[]),([93],[true,true,true,true,true,true,true,true,true,true,true,true,true,true],[]),([92,16],[true,true,true,true,true,true,true,true,true,true,true,true,true,true,false],[]),([93],[true,true,true,true,true,true,true,true,true,true,true,true,true,true,true,false],[])] 0 17 ?_
        refine dD ?_
        refine oN 1 ?_
        refine oK [8,11,12,13,14,15,16,17] ?_
        refine wD 17 [] [[],[],[1,0],[0,1,2],[],[],[5,4],[4,5,6],[],[],[9,8],[8,9,10],[10,9,8,11,6,5,4,7,2,1,0,3],[3,0,1,2,7,4,5,6,11,8,9,10,12],[12,10,9,8,11,6,5,4,7,2,1,0,3,13],[12,10,9,8,11,6,5,4,7,2,1,0,3,13],[13,3,0,1,2,7,4,5,6,11,8,9,10,12,14],[14,16,13,3,0,1,2,7,4,5,6,11,8,9,10,12,15]] ?_
        refine dB [([96,99,100,101,102,103,104,105,106],[],[]),([95,99,100,101,102,103,104,105,106],[false],[]),([99,100,101,102,103,104,105,106],[true,true],[]),([99,100,101,102,103,104,105,106],[true,true,true],[]),([95,96,97,98,100,103,104,105,106],[false,false,false,false],[]),([95,96,97,98,99,103,104,105,106],[false,false,false,false,false],[]),([95,96,97,98,103,104,105,106],[false,false,false,false,true,true],[]),([95,96,97,98,103,104,105,106],[false,false,false,false,true,true,true],[]),([95,96,97,98,99,100,101,102,104],[false,false,false,false,false,false,false,false],[]),([95,96,97,98,99,100,101,102,103],[false,false,false,false,false,false,false,false,false],[]),([95,96,97,98,99,100,101,102],[false,false,false,false,false,false,false,false,true,true],[]),([95,96,97,98,99,100,101,102],[false,false,false,false,false,false,false,false,true,true,true],[])] 5 12 ?_
        refine dC [] [true,true,true,true,true,true,true,true,true,true,true,true] [] [] ?_
        refine cd (rLasts_ok AS[i] DS[i] LS[i]) ?_
        refine dB [([],[true,true,true,true,true,true,true,true,true,true,true,true,true],[]),([109],[true,true,true,true,true,true,true,true,true,true,true,true,true,true],[]),([108,18],[true,true,true,true,true,true,true,true,true,true,true,true,true,true,false],[]),([109],[true,true,true,true,true,true,true,true,true,true,true,true,true,true,true,false],[])] 0 17 ?_
        refine dD ?_
        refine oN 1 ?_
        refine oK [8,11,12,13,14,15,16,17,18,19] ?_
        refine W.seqR ?_
        refine oN 4 ?_
        refine gT ?_
        refine gT ?_
        refine gT ?_
        refine oN 1 ?_
        refine oK [8,11,12,13,14,15,117] ?_
        refine cF ?_
        refine W.skip ?_
        refine hK4 _ ?_
        clear hK4 K4
        refine rEw ?_
        refine ⟨i+1,lf0,v0,v0⟩
       ·
        try simp at hc6
        replace F:=F.add hc6
        refine W.exit ?_
        refine hK2 _ ?_
        clear hK3 K3 hK2 K2
        obtain ⟨s1,qs1⟩:∃x,sealV g4 2 5=x:=⟨_,rfl⟩
        have hs1:=qs1
        obtain ⟨g5,qg5⟩:∃x,sealF g4 2 5=x:=⟨_,rfl⟩
        have hg5:=qg5
        obtain ⟨s2,qs2⟩:∃x,sealV g5 3 3=x:=⟨_,rfl⟩
        have hs2:=qs2
        have qm1:MadeS s1 2 5:=by rw [←qs1];exact sealV_made g4 (by omega) (by omega)
        have qm2:MadeS s2 3 3:=by rw [←qs2];exact sealV_made g5 (by omega) (by omega)
        replace F:=F.add hs1 |>.add hg5 |>.add hs2
        refine wD 5 [(2,[440]),(4,[440])] [[],[],[1],[],[1,2,3],[3,4,1,2,0],[0,2,1,4,3,5]] ?_
        refine dB [([119,120,121,122],[],[440,440]),([118,121],[false],[])] 3 2 ?_
        refine dC [118,121] [false,true] [] [(10000,440)] ?_
        refine cd (SealsOf_ok g4 2 5 (by omega) (by omega)) ?_
        refine dB [([118,119,120],[false,false,false],[440])] 1 4 ?_
        refine dC [118] [false,true,true,true] [] [(10000,440)] ?_
        refine cd (SealsOf_ok g5 3 3 (by omega) (by omega)) ?_
        refine dD ?_
        refine oN 2 ?_
        refine oK [20] ?_
        refine W.seqk fun K5 hK5=>?_
        obtain ⟨SS,qSS⟩:∃L,L=[s,s1,s2]:=⟨_,rfl⟩
        have hSS:[slsV s,slsV s1,slsV s2]=SS.map slsV:=by rw [qSS];rfl
        have hSSl:SS.length=3:=by rw [qSS];rfl
        have qsm:∀x∈SS,x.lef.length≤1000∧x.eve.length≤1000:=fun x hx=>by
          rw [qSS] at hx
          simp only [List.mem_cons,List.not_mem_nil,or_false] at hx
          rcases hx with rfl | rfl | rfl
          · omega
          · have h1:=qm1.ok.l4;have h2:=qm1.ok.le;omega
          · have h1:=qm2.ok.l4;have h2:=qm2.ok.le;omega
        replace F:=F.add hSS |>.add hSSl
        refine rK [20,21] ?_
        refine W.block ?_
        refine W.weaken Le.dedup ?_
        refine W.norm (by simp;rfl) ?_
        refine lpa (α:=Nat) [20] [22,126,134,137,145,154,163] [] (fun j=>[(21,I j)]) (fun j=>[]) (fun j=>j≤3) (fun j=>3-j) 0 v0 ?_
        ·
         intro j hI1
         simp only [List.cons_append,List.nil_append]
         try dsimp only at hI1
         replace F:=F.add hI1
         refine W.seqk fun K6 hK6=>?_
         refine rK [20,21,127] ?_
         refine it (fun hc8=>?_) (fun hc8=>?_)
         ·
          try simp at hc8
          replace F:=F.add hc8
          refine W.skip ?_
          refine hK6 _ ?_
          clear hK6 K6
          refine W.seqk fun K7 hK7=>?_
          refine W.block ?_
          have hj3:j<3:=by omega
          have hjS:j<SS.length:=by omega
          obtain ⟨q1,q2⟩:=qsm _ (List.getElem_mem hjS)
          obtain ⟨C,qC⟩:∃C,C=SS[j]:=⟨_,rfl⟩
          have hC:=qC.symm
          rw [←qC] at q1 q2
          have hpl:=planL_same C
          have hpe:=planE_same C
          replace F:=F.add hj3 |>.add hjS |>.add hC |>.add hpl |>.add hpe
          refine W.seqR ?_
          refine oN 4 ?_
          refine oC [] ?_
          refine ct (CopySeals_imm C q1 q2) ?_
          refine oN 2 ?_
          refine oK [20,21,22] ?_
          refine W.seqR ?_
          refine oN 1 ?_
          refine oC [] ?_
          refine ct (Plan_ok C q1 q2) ?_
          refine oN 5 ?_
          refine oK [20,21,22,23,24] ?_
          refine W.seqR ?_
          refine oN 4 ?_
          refine oC [] ?_
          refine ct (rPlan_ok C q1 q2) ?_
          refine oN 5 ?_
          refine oK [20,21,22,23,24,25,26] ?_
          refine wD 15 [] [[],[],[1,0],[0,1,2],[2,1,0,3],[2,1,0,3],[5,3,0,1,2,4],[4,2,1,0,3,5,6],[6,5,4,7,2,1,0,3],[3,0,1,2,7,4,5,6,8],[8,6,5,4,7,2,1,0,3,9],[8,6,5,4,7,2,1,0,3,9],[8,6,5,4,7,2,1,0,3,9],[12,9,3,0,1,2,7,4,5,6,8,11],[11,8,6,5,4,7,2,1,0,3,9,12,13],[13,12,11,14,9,3,0,1,2,7,4,5,6,8,10],[10,8,6,5,4,7,2,1,0,3,9,14,11,12,13,15],[15,13,12,11,14,10,16,8,6,5,4,7,2,1,0,3,9]] ?_
          refine dB [([149],[],[]),([148],[false],[]),([],[true,true],[]),([],[true,true,true],[])] 11 4 ?_
          refine dT [153] [true,true,true,true] [] ?_
          refine dT [152] [true,true,true,true,false] [] ?_
          refine dG [] [true,true,true,true,true,true] [] [] ?_
          refine cd (SameTests_ok (planL C) (planL C)) ?_
          refine dT [] [true,true,true,true,true,true,true] [] ?_
          refine dB [([],[true,true,true,true,true,true,true,true],[]),([],[true,true,true,true,true,true,true,true,true],[])] 5 10 ?_
          refine dT [159,160,161,162] [true,true,true,true,true,true,true,true,true,true] [] ?_
          refine dT [158,160] [true,true,true,true,true,true,true,true,true,true,false] [] ?_
          refine dT [158,159] [true,true,true,true,true,true,true,true,true,true,false,false] [] ?_
          refine dT [158] [true,true,true,true,true,true,true,true,true,true,false,true,true] [] ?_
          refine dT [158] [true,true,true,true,true,true,true,true,true,true,false,true,true,true] [] ?_
          refine dD ?_
          refine gC [] ?_
          refine ct (SameSeals_same C) ?_
          refine gT ?_
          refine oN 1 ?_
          refine oK [20,21,165] ?_
          refine cF ?_
          refine W.skip ?_
          refine hK7 _ ?_
          clear hK7 K7
          refine rEw ?_
          refine ⟨j+1,lf0,v0,v0⟩
         ·
          try simp at hc8
          replace F:=F.add hc8
          refine W.exit ?_
          refine hK5 _ ?_
          clear hK6 K6 hK5 K5
          refine W.seqR ?_
          refine oC [] ?_
          refine ct (awake_ok) ?_
          refine oN 1 ?_
          refine oK [10] ?_
          refine W.ret ?_
          exact er0 false [] []
   ·
    replace F:=F.add hck
    have hckb:(seaC s==0)=false:=by simp [hck]
    replace F:=F.add hckb
    refine W.seqR ?_
    refine oN 5 ?_
    refine gT ?_
    refine gT ?_
    refine gT ?_
    refine gT ?_
    refine oN 2 ?_
    refine gT ?_
    refine gC [] ?_
    refine ct (rseaC_ok s (by omega) (by omega)) ?_
    refine gT ?_
    refine gT ?_
    refine gF ?_
    refine gF ?_
    refine gF ?_
    refine gF ?_
    refine gF ?_
    refine gF ?_
    refine gF ?_
    refine gF ?_
    refine gF ?_
    refine gT ?_
    refine oN 1 ?_
    refine oK [2,4,5,6,8,52] ?_
    refine cF ?_
    refine W.skip ?_
    refine hK1 _ ?_
    clear hK1 K1
    refine W.seqR ?_
    refine oN 1 ?_
    refine oC [] ?_
    refine CallT.mk (DieOf_ok nums) (by simp [hl1,hl2,hck,hckb]) ?_
    obtain ⟨f,qf⟩:∃f,nums.foldl dieStep 2611923443488327891=f:=⟨_,rfl⟩
    have hf:=qf
    replace F:=F.add hf
    refine WOps.norm (by simp [hl1,hl2,hck,hckb,hf];rfl) ?_
    refine oN 1 ?_
    refine oK [2,5,6,8,11] ?_
    obtain ⟨a1,qa1⟩:∃x,spnD f (-9) 9=x:=⟨_,rfl⟩
    have ha1:=qa1
    obtain ⟨g1,qg1⟩:∃x,spnF f (-9) 9=x:=⟨_,rfl⟩
    have hg1:=qg1
    obtain ⟨d1,qd1⟩:∃x,spnD g1 (-3) 3=x:=⟨_,rfl⟩
    have hd1:=qd1
    obtain ⟨g2,qg2⟩:∃x,spnF g1 (-3) 3=x:=⟨_,rfl⟩
    have hg2:=qg2
    obtain ⟨d2,qd2⟩:∃x,spnD g2 (-3) 3=x:=⟨_,rfl⟩
    have hd2:=qd2
    obtain ⟨g3,qg3⟩:∃x,spnF g2 (-3) 3=x:=⟨_,rfl⟩
    have hg3:=qg3
    obtain ⟨c1,qc1⟩:∃x,castV g3 40=x:=⟨_,rfl⟩
    have hc1v:=qc1
    obtain ⟨g4,qg4⟩:∃x,castF g3 40=x:=⟨_,rfl⟩
    have hg4:=qg4
    replace F:=F.add ha1 |>.add hg1 |>.add hd1 |>.add hg2 |>.add hd2 |>.add hg3 |>.add hc1v |>.add hg4
    refine wD 18 [(2,[440]),(7,[440]),(9,[440]),(13,[440])] [[],[],[1],[],[3,1,2,0],[],[],[1,2,6],[],[6,2,1,7,8],[8,9,6,2,1,7,5],[],[],[8,7,1,2,6,9,12],[],[14,12,9,6,2,1,7,8,13,11],[12,9,6,7,8,13,0,2,1,3,4],[4,3,0,13,12,16,5,7,1,2,6,9,8,10],[10,5,16,0,3,4,17,11,13,8,7,1,2,6,9,12,14,15]] ?_
    refine dB [([57,58,59,61,62,63,64,65,66,67,68,69,70,71],[],[440,440,440,440]),([56,59,61,62,64,67,68,70],[false],[])] 16 2 ?_
    refine dC [56,59,61,62,64,67,68,70] [false,true] [] [(10000,440)] ?_
    refine cd (Span_ok f (-9) 9 (by omega) (by omega) (by omega)) ?_
    refine dB [([56,57,58,61,62,63,64,65,66,67,68,69,70,71],[false,false,false],[440,440,440,440]),([61,62,63,64,65,66,67,68,69,70,71],[true,true,true,true],[440,440,440]),([56,57,58,59,60,62,63,64,65,67,68,69,70,71,12],[false,false,false,false,false],[440,440,440,440]),([56,57,58,59,60,61,64,67,68,70],[false,false,false,false,false,false],[440])] 11 7 ?_
    refine dC [56,59,60,61,64,67,68,70] [false,true,true,false,false,false,true] [] [(10000,440)] ?_
    refine cd (Span_ok g1 (-3) 3 (by omega) (by omega) (by omega)) ?_
    refine dB [([56,57,58,59,60,61,62,63,67,68,70],[false,false,false,false,false,false,false,false],[440,440])] 9 9 ?_
    refine dC [56,59,60,61,67,68,70] [false,true,true,false,false,false,true,true,true] [] [(10000,440)] ?_
    refine cd (Span_ok g2 (-3) 3 (by omega) (by omega) (by omega)) ?_
    refine dB [([56,59,60,67,68,69,70,71,12],[false,true,true,false,false,true,true,true,true,true],[440]),([56,57,58,59,60,61,62,63,64,65,66,68,69,70,12,13],[false,false,false,false,false,false,false,false,false,false,false],[440,440,440,440]),([56,57,58,59,60,61,62,63,64,65,66,67,70],[false,false,false,false,false,false,false,false,false,false,false,false],[440,440,440])] 5 13 ?_
    refine dC [56,59,60,61,66,67,70] [false,true,true,false,false,false,true,true,true,true,false,false,true] [] [(10000,440)] ?_
    refine cd (Cast_ok g3 40 (by omega)) ?_
    refine dB [([56,57,58,59,60,61,62,63,64,65,66,67,68,69,12,13],[false,false,false,false,false,false,false,false,false,false,false,false,false,false],[440,440,440,440]),([56,59,60,61,66,12,13],[false,true,true,false,false,false,true,true,true,true,false,true,true,true,true],[]),([61,66,67,70,71],[true,true,true,true,true,false,true,true,true,true,false,false,true,true,false,false],[]),([67,70,71],[true,true,true,true,true,true,true,true,true,true,true,false,true,true,false,false,true],[])] 0 18 ?_
    refine dD ?_
    refine oN 1 ?_
    refine oK [8,11,12,13,14] ?_
    refine W.seqk fun K8 hK8=>?_
    obtain ⟨AS,qAS⟩:∃L,L=[a,a1,a]:=⟨_,rfl⟩
    obtain ⟨DS,qDS⟩:∃L,L=[d,d1,d2]:=⟨_,rfl⟩
    obtain ⟨LS,qLS⟩:∃L,L=[lim,c1,lim]:=⟨_,rfl⟩
    have hAS:[AV.agg [I a.lo,I a.hi],AV.agg [I a1.lo,I a1.hi],AV.agg [I a.lo,I a.hi]]=AS.map S2:=by rw [qAS];rfl
    have hDS:[AV.agg [I d.lo,I d.hi],AV.agg [I d1.lo,I d1.hi],AV.agg [I d2.lo,I d2.hi]]=DS.map S2:=by rw [qDS];rfl
    have hLS:[I lim,I c1,I lim]=LS.map I:=by rw [qLS];rfl
    have hASl:AS.length=3:=by rw [qAS];rfl
    have hDSl:DS.length=3:=by rw [qDS];rfl
    have hLSl:LS.length=3:=by rw [qLS];rfl
    replace F:=F.add hAS |>.add hDS |>.add hLS |>.add hASl |>.add hDSl |>.add hLSl
    refine rK [8,11,12,13,14,15] ?_
    refine W.block ?_
    refine W.weaken Le.dedup ?_
    refine W.norm (by simp;rfl) ?_
    refine lpa (α:=Nat) [8,11,12,13,14] [74,91,107] [] (fun i=>[(15,I i)]) (fun i=>[]) (fun i=>i≤3) (fun i=>3-i) 0 v0 ?_
    ·
     intro i hI0
     simp only [List.cons_append,List.nil_append]
     try dsimp only at hI0
     replace F:=F.add hI0
     refine W.seqk fun K9 hK9=>?_
     refine rK [8,11,12,13,14,15,75] ?_
     refine it (fun hc11=>?_) (fun hc11=>?_)
     ·
      try simp at hc11
      replace F:=F.add hc11
      refine W.skip ?_
      refine hK9 _ ?_
      clear hK9 K9
      refine W.seqk fun K10 hK10=>?_
      refine W.block ?_
      have hi3:i<3:=by omega
      have hiA:i<AS.length:=by omega
      have hiD:i<DS.length:=by omega
      have hiL:i<LS.length:=by omega
      replace F:=F.add hi3 |>.add hiA |>.add hiD |>.add hiL
      refine wD 17 [] [[],[],[1,0],[0,1,2],[],[],[5,4],[4,5,6],[],[],[9,8],[8,9,10],[10,9,8,11,6,5,4,7,2,1,0,3],[3,0,1,2,7,4,5,6,11,8,9,10,12],[12,10,9,8,11,6,5,4,7,2,1,0,3,13],[12,10,9,8,11,6,5,4,7,2,1,0,3,13],[13,3,0,1,2,7,4,5,6,11,8,9,10,12,14],[14,16,13,3,0,1,2,7,4,5,6,11,8,9,10,12,15]] ?_
      refine dB [([80,83,84,85,86,87,88,89,90],[],[]),([79,83,84,85,86,87,88,89,90],[false],[]),([83,84,85,86,87,88,89,90],[true,true],[]),([83,84,85,86,87,88,89,90],[true,true,true],[]),([79,80,81,82,84,87,88,89,90],[false,false,false,false],[]),([79,80,81,82,83,87,88,89,90],[false,false,false,false,false],[]),([79,80,81,82,87,88,89,90],[false,false,false,false,true,true],[]),([79,80,81,82,87,88,89,90],[false,false,false,false,true,true,true],[]),([79,80,81,82,83,84,85,86,88],[false,false,false,false,false,false,false,false],[]),([79,80,81,82,83,84,85,86,87],[false,false,false,false,false,false,false,false,false],[]),([79,80,81,82,83,84,85,86],[false,false,false,false,false,false,false,false,true,true],[]),([79,80,81,82,83,84,85,86],[false,false,false,false,false,false,false,false,true,true,true],[])] 5 12 ?_
      refine dC [] [true,true,true,true,true,true,true,true,true,true,true,true] [] [] ?_
      refine cd (Lasts_ok AS[i] DS[i] LS[i]) ?_
      refine dB [([],[true,true,true,true,true,true,true,true,true,true,true,true,true],[]),([93],[true,true,true,true,true,true,true,true,true,true,true,true,true,true],[]),([92,16],[true,true,true,true,true,true,true,true,true,true,true,true,true,true,false],[]),([93],[true,true,true,true,true,true,true,true,true,true,true,true,true,true,true,false],[])] 0 17 ?_
      refine dD ?_
      refine oN 1 ?_
      refine oK [8,11,12,13,14,15,16,17] ?_
      refine wD 17 [] [[],[],[1,0],[0,1,2],[],[],[5,4],[4,5,6],[],[],[9,8],[8,9,10],[10,9,8,11,6,5,4,7,2,1,0,3],[3,0,1,2,7,4,5,6,11,8,9,10,12],[12,10,9,8,11,6,5,4,7,2,1,0,3,13],[12,10,9,8,11,6,5,4,7,2,1,0,3,13],[13,3,0,1,2,7,4,5,6,11,8,9,10,12,14],[14,16,13,3,0,1,2,7,4,5,6,11,8,9,10,12,15]] ?_
      refine dB [([96,99,100,101,102,103,104,105,106],[],[]),([95,99,100,101,102,103,104,105,106],[false],[]),([99,100,101,102,103,104,105,106],[true,true],[]),([99,100,101,102,103,104,105,106],[true,true,true],[]),([95,96,97,98,100,103,104,105,106],[false,false,false,false],[]),([95,96,97,98,99,103,104,105,106],[false,false,false,false,false],[]),([95,96,97,98,103,104,105,106],[false,false,false,false,true,true],[]),([95,96,97,98,103,104,105,106],[false,false,false,false,true,true,true],[]),([95,96,97,98,99,100,101,102,104],[false,false,false,false,false,false,false,false],[]),([95,96,97,98,99,100,101,102,103],[false,false,false,false,false,false,false,false,false],[]),([95,96,97,98,99,100,101,102],[false,false,false,false,false,false,false,false,true,true],[]),([95,96,97,98,99,100,101,102],[false,false,false,false,false,false,false,false,true,true,true],[])] 5 12 ?_
      refine dC [] [true,true,true,true,true,true,true,true,true,true,true,true] [] [] ?_
      refine cd (rLasts_ok AS[i] DS[i] LS[i]) ?_
      refine dB [([],[true,true,true,true,true,true,true,true,true,true,true,true,true],[]),([109],[true,true,true,true,true,true,true,true,true,true,true,true,true,true],[]),([108,18],[true,true,true,true,true,true,true,true,true,true,true,true,true,true,false],[]),([109],[true,true,true,true,true,true,true,true,true,true,true,true,true,true,true,false],[])] 0 17 ?_
      refine dD ?_
      refine oN 1 ?_
      refine oK [8,11,12,13,14,15,16,17,18,19] ?_
      refine W.seqR ?_
      refine oN 4 ?_
      refine gT ?_
      refine gT ?_
      refine gT ?_
      refine oN 1 ?_
      refine oK [8,11,12,13,14,15,117] ?_
      refine cF ?_
      refine W.skip ?_
      refine hK10 _ ?_
      clear hK10 K10
      refine rEw ?_
      refine ⟨i+1,lf0,v0,v0⟩
     ·
      try simp at hc11
      replace F:=F.add hc11
      refine W.exit ?_
      refine hK8 _ ?_
      clear hK9 K9 hK8 K8
      obtain ⟨s1,qs1⟩:∃x,sealV g4 2 5=x:=⟨_,rfl⟩
      have hs1:=qs1
      obtain ⟨g5,qg5⟩:∃x,sealF g4 2 5=x:=⟨_,rfl⟩
      have hg5:=qg5
      obtain ⟨s2,qs2⟩:∃x,sealV g5 3 3=x:=⟨_,rfl⟩
      have hs2:=qs2
      have qm1:MadeS s1 2 5:=by rw [←qs1];exact sealV_made g4 (by omega) (by omega)
      have qm2:MadeS s2 3 3:=by rw [←qs2];exact sealV_made g5 (by omega) (by omega)
      replace F:=F.add hs1 |>.add hg5 |>.add hs2
      refine wD 5 [(2,[440]),(4,[440])] [[],[],[1],[],[1,2,3],[3,4,1,2,0],[0,2,1,4,3,5]] ?_
      refine dB [([119,120,121,122],[],[440,440]),([118,121],[false],[])] 3 2 ?_
      refine dC [118,121] [false,true] [] [(10000,440)] ?_
      refine cd (SealsOf_ok g4 2 5 (by omega) (by omega)) ?_
      refine dB [([118,119,120],[false,false,false],[440])] 1 4 ?_
      refine dC [118] [false,true,true,true] [] [(10000,440)] ?_
      refine cd (SealsOf_ok g5 3 3 (by omega) (by omega)) ?_
      refine dD ?_
      refine oN 2 ?_
      refine oK [20] ?_
      refine W.seqk fun K11 hK11=>?_
      obtain ⟨SS,qSS⟩:∃L,L=[s,s1,s2]:=⟨_,rfl⟩
      have hSS:[slsV s,slsV s1,slsV s2]=SS.map slsV:=by rw [qSS];rfl
      have hSSl:SS.length=3:=by rw [qSS];rfl
      have qsm:∀x∈SS,x.lef.length≤1000∧x.eve.length≤1000:=fun x hx=>by
        rw [qSS] at hx
        simp only [List.mem_cons,List.not_mem_nil,or_false] at hx
        rcases hx with rfl | rfl | rfl
        · omega
        · have h1:=qm1.ok.l4;have h2:=qm1.ok.le;omega
        · have h1:=qm2.ok.l4;have h2:=qm2.ok.le;omega
      replace F:=F.add hSS |>.add hSSl
      refine rK [20,21] ?_
      refine W.block ?_
      refine W.weaken Le.dedup ?_
      refine W.norm (by simp;rfl) ?_
      refine lpa (α:=Nat) [20] [22,126,134,137,145,154,163] [] (fun j=>[(21,I j)]) (fun j=>[]) (fun j=>j≤3) (fun j=>3-j) 0 v0 ?_
      ·
       intro j hI1
       simp only [List.cons_append,List.nil_append]
       try dsimp only at hI1
       replace F:=F.add hI1
       refine W.seqk fun K12 hK12=>?_
       refine rK [20,21,127] ?_
       refine it (fun hc13=>?_) (fun hc13=>?_)
       ·
        try simp at hc13
        replace F:=F.add hc13
        refine W.skip ?_
        refine hK12 _ ?_
        clear hK12 K12
        refine W.seqk fun K13 hK13=>?_
        refine W.block ?_
        have hj3:j<3:=by omega
        have hjS:j<SS.length:=by omega
        obtain ⟨q1,q2⟩:=qsm _ (List.getElem_mem hjS)
        obtain ⟨C,qC⟩:∃C,C=SS[j]:=⟨_,rfl⟩
        have hC:=qC.symm
        rw [←qC] at q1 q2
        have hpl:=planL_same C
        have hpe:=planE_same C
        replace F:=F.add hj3 |>.add hjS |>.add hC |>.add hpl |>.add hpe
        refine W.seqR ?_
        refine oN 4 ?_
        refine oC [] ?_
        refine ct (CopySeals_imm C q1 q2) ?_
        refine oN 2 ?_
        refine oK [20,21,22] ?_
        refine W.seqR ?_
        refine oN 1 ?_
        refine oC [] ?_
        refine ct (Plan_ok C q1 q2) ?_
        refine oN 5 ?_
        refine oK [20,21,22,23,24] ?_
        refine W.seqR ?_
        refine oN 4 ?_
        refine oC [] ?_
        refine ct (rPlan_ok C q1 q2) ?_
        refine oN 5 ?_
        refine oK [20,21,22,23,24,25,26] ?_
        refine wD 15 [] [[],[],[1,0],[0,1,2],[2,1,0,3],[2,1,0,3],[5,3,0,1,2,4],[4,2,1,0,3,5,6],[6,5,4,7,2,1,0,3],[3,0,1,2,7,4,5,6,8],[8,6,5,4,7,2,1,0,3,9],[8,6,5,4,7,2,1,0,3,9],[8,6,5,4,7,2,1,0,3,9],[12,9,3,0,1,2,7,4,5,6,8,11],[11,8,6,5,4,7,2,1,0,3,9,12,13],[13,12,11,14,9,3,0,1,2,7,4,5,6,8,10],[10,8,6,5,4,7,2,1,0,3,9,14,11,12,13,15],[15,13,12,11,14,10,16,8,6,5,4,7,2,1,0,3,9]] ?_
        refine dB [([149],[],[]),([148],[false],[]),([],[true,true],[]),([],[true,true,true],[])] 11 4 ?_
        refine dT [153] [true,true,true,true] [] ?_
        refine dT [152] [true,true,true,true,false] [] ?_
        refine dG [] [true,true,true,true,true,true] [] [] ?_
        refine cd (SameTests_ok (planL C) (planL C)) ?_
        refine dT [] [true,true,true,true,true,true,true] [] ?_
        refine dB [([],[true,true,true,true,true,true,true,true],[]),([],[true,true,true,true,true,true,true,true,true],[])] 5 10 ?_
        refine dT [159,160,161,162] [true,true,true,true,true,true,true,true,true,true] [] ?_
        refine dT [158,160] [true,true,true,true,true,true,true,true,true,true,false] [] ?_
        refine dT [158,159] [true,true,true,true,true,true,true,true,true,true,false,false] [] ?_
        refine dT [158] [true,true,true,true,true,true,true,true,true,true,false,true,true] [] ?_
        refine dT [158] [true,true,true,true,true,true,true,true,true,true,false,true,true,true] [] ?_
        refine dD ?_
        refine gC [] ?_
        refine ct (SameSeals_same C) ?_
        refine gT ?_
        refine oN 1 ?_
        refine oK [20,21,165] ?_
        refine cF ?_
        refine W.skip ?_
        refine hK13 _ ?_
        clear hK13 K13
        refine rEw ?_
        refine ⟨j+1,lf0,v0,v0⟩
       ·
        try simp at hc13
        replace F:=F.add hc13
        refine W.exit ?_
        refine hK11 _ ?_
        clear hK12 K12 hK11 K11
        refine W.seqR ?_
        refine oC [] ?_
        refine ct (awake_ok) ?_
        refine oN 1 ?_
        refine oK [10] ?_
        refine W.ret ?_
        exact er0 false [] []
end Go.Sim
