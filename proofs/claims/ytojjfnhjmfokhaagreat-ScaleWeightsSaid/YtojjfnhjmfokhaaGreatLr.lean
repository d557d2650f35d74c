/- Copies of benches, comparisons. -/
import Derived.Test.YtojjfnhjmfokhaaGreatLp
namespace Go.Sim
set_option maxHeartbeats 4000000
open Go.Proofs
set_option maxRecDepth 100000
set_option linter.unusedSimpArgs false
set_option linter.unusedVariables false
attribute [-simp] List.map_set List.map_take List.map_drop
attribute [simp] spn_eta
theorem CopyBench_own (b:Ben) (h1:b.mas.length≤1000) (h2:b.wei.length≤1000) (h3:b.scl.length≤1000) (h4:b.tri.length≤1000):ACalls Tryz.prog 9 [benV b] [] (fun r o=>r = .agg [.own 20000 0 b.mas.length,.own 20001 0 b.wei.length,.own 20002 0 b.scl.length,.own 20003 0 b.tri.length,I b.days]∧o=[(20000,.row true 77 3 (b.mas.map M3)),(20001,.row true 82 4 (b.wei.map W4)),(20002,.row true 80 4 (b.scl.map C4)),(20003,.row true 84 4 (b.tri.map R4))]):=by
 have F:=Fx.nil
 replace F:=F.add h1 |>.add h2 |>.add h3 |>.add h4
 refine ent Tryz.func9 Tryz.ntmps9 Tryz.results9 ?_
 refine rK [1,2] ?_
 refine wD 9 [(3,[24]),(7,[56])] [[],[],[1],[1,2,0],[],[],[5],[0,2,1,3,5,6,4],[6,5,3,2,1,0],[4,7,0,1,2,3,5,6,8],[9,8,7,6,5,4,3,2,1,0],[0,1,2,3,4,5,6,7,8,9,10]] ?_
 refine dB [([4,5,7,8,9],[],[]),([3,7,8,9],[false],[]),([3,7,8,9],[false,true],[])] 6 3 ?_
 refine dAw [7,8,9] [true,true,true] [] [24] ?_
 refine dB [([3,4,5,6,8,9,11],[false,false,false,false],[24]),([3,4,5,6,7],[false,false,false,false,false],[24]),([3,4,5,6,7],[false,false,false,false,false,true],[24])] 2 7 ?_
 refine dAw [11] [true,true,true,true,true,true,true] [] [56] ?_
 refine dB [([7,10],[true,true,true,true,false,true,true,false],[56])] 0 9 ?_
 refine dD ?_
 refine oN 3 ?_
 refine oK [1,2] ?_
 refine wD 9 [(3,[104]),(7,[136])] [[],[],[1],[1,2,0],[],[],[5],[0,2,1,3,5,6,4],[6,5,3,2,1,0],[4,7,0,1,2,3,5,6,8],[9,8,7,6,5,4,3,2,1,0],[0,1,2,3,4,5,6,7,8,9,10]] ?_
 refine dB [([14,15,17,18,19],[],[]),([13,17,18,19],[false],[]),([13,17,18,19],[false,true],[])] 6 3 ?_
 refine dAw [17,18,19] [true,true,true] [] [104] ?_
 refine dB [([13,14,15,16,18,19,21],[false,false,false,false],[104]),([13,14,15,16,17],[false,false,false,false,false],[104]),([13,14,15,16,17],[false,false,false,false,false,true],[104])] 2 7 ?_
 refine dAw [21] [true,true,true,true,true,true,true] [] [136] ?_
 refine dB [([17,20],[true,true,true,true,false,true,true,false],[136])] 0 9 ?_
 refine dD ?_
 refine oN 3 ?_
 refine oK [1,2] ?_
 refine rK [2] ?_
 refine W.ret ?_
 exact er0 false [] [(20000,48),(20001,80),(20002,128),(20003,160)]
theorem CopyBench_imm (b:Ben) (h1:b.mas.length≤1000) (h2:b.wei.length≤1000) (h3:b.scl.length≤1000) (h4:b.tri.length≤1000):ACalls Tryz.prog 9 [benV b] [] (fun r o=>r=benV b∧o=[]):=ACalls.frzs [20000,20001,20002,20003] (CopyBench_own b h1 h2 h3 h4) (by simp;rfl) (by simp;rfl)
theorem SameBenches_same (b:Ben) (h1:b.mas.length≤1000) (h2:b.wei.length≤1000) (h3:b.scl.length≤1000) (h4:b.tri.length≤1000):ACalls Tryz.prog 14 [benV b,benV b] [] (fun r o=>r=B true∧o=[]):=by
 have F:=Fx.nil
 replace F:=F.add h1 |>.add h2 |>.add h3 |>.add h4
 refine ent Tryz.func14 Tryz.ntmps14 Tryz.results14 ?_
 refine rK [2,3] ?_
 refine W.seqR ?_
 refine oN 6 ?_
 refine gT ?_
 refine gT ?_
 refine gT ?_
 refine gT ?_
 refine gT ?_
 refine gT ?_
 refine gT ?_
 refine oN 2 ?_
 refine gT ?_
 refine gT ?_
 refine gT ?_
 refine gT ?_
 refine gT ?_
 refine gT ?_
 refine gT ?_
 refine oN 2 ?_
 refine gT ?_
 refine gT ?_
 refine gT ?_
 refine gT ?_
 refine gT ?_
 refine gT ?_
 refine gT ?_
 refine oN 2 ?_
 refine gT ?_
 refine gT ?_
 refine gT ?_
 refine gT ?_
 refine gT ?_
 refine gT ?_
 refine gT ?_
 refine oN 2 ?_
 refine oK [2,3,5] ?_
 refine W.seqk fun K1 hK1=>?_
 refine rK [2,3,5,6] ?_
 refine W.block ?_
 refine lpa (α:=Nat) [2,3] [56] [] (fun i=>[(5,B true),(6,I i)]) (fun i=>[]) (fun i=>i≤b.mas.length) (fun i=>b.mas.length-i) 0 v0 ?_
 ·
  intro i hI0
  simp only [List.cons_append,List.nil_append]
  try dsimp only at hI0
  replace F:=F.add hI0
  refine W.seqk fun K2 hK2=>?_
  refine W.seqR ?_
  refine oN 2 ?_
  refine gT ?_
  refine gT ?_
  refine gT ?_
  refine gT ?_
  refine gT ?_
  refine oN 1 ?_
  refine oK [2,3,5,6,58] ?_
  refine it (fun hc1=>?_) (fun hc1=>?_)
  ·
   try simp at hc1
   replace F:=F.add hc1
   refine W.skip ?_
   refine hK2 _ ?_
   clear hK2 K2
   refine W.seqk fun K3 hK3=>?_
   refine W.block ?_
   refine wDe 10 [] [[],[0],[],[2,0,1],[1,0,2,3],[],[5],[],[7,5,6],[6,5,7,8],[8,7,5,6,9,3,2,0,1,4],[4,1,0,2,3,9,6,5,7,8,10]] ?_
   refine dB [([63,66,67,68,69,70],[],[]),([63,66,67,68,69,70],[true],[]),([61,62,66,67,68,69,70],[false,false],[]),([66,67,68,69,70],[true,true,true],[]),([66,67,68,69,70],[true,true,true,true],[]),([61,62,63,64,65,68],[false,false,false,false,false],[]),([61,62,63,64,65,68],[false,false,false,false,false,true],[]),([61,62,63,64,65,66,67],[false,false,false,false,false,false,false],[]),([61,62,63,64,65],[false,false,false,false,false,true,true,true],[]),([61,62,63,64,65],[false,false,false,false,false,true,true,true,true],[])] 0 10 ?_
   refine dD ?_
   refine oN 2 ?_
   refine WOps.endK ?_
   refine hK3 _ ?_
   clear hK3 K3
   refine rEw ?_
   refine ⟨i+1,lf0,v0,v0⟩
  ·
   try simp at hc1
   replace F:=F.add hc1
   refine W.exit ?_
   refine hK1 _ ?_
   clear hK2 K2 hK1 K1
   refine W.seqk fun K4 hK4=>?_
   refine rK [2,3,5,7] ?_
   refine W.block ?_
   refine lpa (α:=Nat) [2,3] [77] [] (fun i=>[(5,B true),(7,I i)]) (fun i=>[]) (fun i=>i≤b.wei.length) (fun i=>b.wei.length-i) 0 v0 ?_
   ·
    intro i hI1
    simp only [List.cons_append,List.nil_append]
    try dsimp only at hI1
    replace F:=F.add hI1
    refine W.seqk fun K5 hK5=>?_
    refine W.seqR ?_
    refine oN 2 ?_
    refine gT ?_
    refine gT ?_
    refine gT ?_
    refine gT ?_
    refine gT ?_
    refine oN 1 ?_
    refine oK [2,3,5,7,79] ?_
    refine it (fun hc2=>?_) (fun hc2=>?_)
    ·
     try simp at hc2
     replace F:=F.add hc2
     refine W.skip ?_
     refine hK5 _ ?_
     clear hK5 K5
     refine W.seqk fun K6 hK6=>?_
     refine W.block ?_
     refine wDe 10 [] [[],[0],[],[2,0,1],[1,0,2,3],[],[5],[],[7,5,6],[6,5,7,8],[8,7,5,6,9,3,2,0,1,4],[4,1,0,2,3,9,6,5,7,8,10]] ?_
     refine dB [([84,87,88,89,90,91],[],[]),([84,87,88,89,90,91],[true],[]),([82,83,87,88,89,90,91],[false,false],[]),([87,88,89,90,91],[true,true,true],[]),([87,88,89,90,91],[true,true,true,true],[]),([82,83,84,85,86,89],[false,false,false,false,false],[]),([82,83,84,85,86,89],[false,false,false,false,false,true],[]),([82,83,84,85,86,87,88],[false,false,false,false,false,false,false],[]),([82,83,84,85,86],[false,false,false,false,false,true,true,true],[]),([82,83,84,85,86],[false,false,false,false,false,true,true,true,true],[])] 0 10 ?_
     refine dD ?_
     refine oN 2 ?_
     refine WOps.endK ?_
     refine hK6 _ ?_
     clear hK6 K6
     refine rEw ?_
     refine ⟨i+1,lf0,v0,v0⟩
    ·
     try simp at hc2
     replace F:=F.add hc2
     refine W.exit ?_
     refine hK4 _ ?_
     clear hK5 K5 hK4 K4
     refine W.seqk fun K7 hK7=>?_
     refine rK [2,3,5,8] ?_
     refine W.block ?_
     refine lpa (α:=Nat) [2,3] [98] [] (fun i=>[(5,B true),(8,I i)]) (fun i=>[]) (fun i=>i≤b.scl.length) (fun i=>b.scl.length-i) 0 v0 ?_
     ·
      intro i hI2
      simp only [List.cons_append,List.nil_append]
      try dsimp only at hI2
      replace F:=F.add hI2
      refine W.seqk fun K8 hK8=>?_
      refine W.seqR ?_
      refine oN 2 ?_
      refine gT ?_
      refine gT ?_
      refine gT ?_
      refine gT ?_
      refine gT ?_
      refine oN 1 ?_
      refine oK [2,3,5,8,100] ?_
      refine it (fun hc3=>?_) (fun hc3=>?_)
      ·
       try simp at hc3
       replace F:=F.add hc3
       refine W.skip ?_
       refine hK8 _ ?_
       clear hK8 K8
       refine W.seqk fun K9 hK9=>?_
       refine W.block ?_
       refine wDe 10 [] [[],[0],[],[2,0,1],[1,0,2,3],[],[5],[],[7,5,6],[6,5,7,8],[8,7,5,6,9,3,2,0,1,4],[4,1,0,2,3,9,6,5,7,8,10]] ?_
       refine dB [([105,108,109,110,111,112],[],[]),([105,108,109,110,111,112],[true],[]),([103,104,108,109,110,111,112],[false,false],[]),([108,109,110,111,112],[true,true,true],[]),([108,109,110,111,112],[true,true,true,true],[]),([103,104,105,106,107,110],[false,false,false,false,false],[]),([103,104,105,106,107,110],[false,false,false,false,false,true],[]),([103,104,105,106,107,108,109],[false,false,false,false,false,false,false],[]),([103,104,105,106,107],[false,false,false,false,false,true,true,true],[]),([103,104,105,106,107],[false,false,false,false,false,true,true,true,true],[])] 0 10 ?_
       refine dD ?_
       refine oN 2 ?_
       refine WOps.endK ?_
       refine hK9 _ ?_
       clear hK9 K9
       refine rEw ?_
       refine ⟨i+1,lf0,v0,v0⟩
      ·
       try simp at hc3
       replace F:=F.add hc3
       refine W.exit ?_
       refine hK7 _ ?_
       clear hK8 K8 hK7 K7
       refine W.seqk fun K10 hK10=>?_
       refine rK [2,3,5,9] ?_
       refine W.block ?_
       refine lpa (α:=Nat) [2,3] [119] [] (fun i=>[(5,B true),(9,I i)]) (fun i=>[]) (fun i=>i≤b.tri.length) (fun i=>b.tri.length-i) 0 v0 ?_
       ·
        intro i hI3
        simp only [List.cons_append,List.nil_append]
        try dsimp only at hI3
        replace F:=F.add hI3
        refine W.seqk fun K11 hK11=>?_
        refine W.seqR ?_
        refine oN 2 ?_
        refine gT ?_
        refine gT ?_
        refine gT ?_
        refine gT ?_
        refine gT ?_
        refine oN 1 ?_
        refine oK [2,3,5,9,121] ?_
        refine it (fun hc4=>?_) (fun hc4=>?_)
        ·
         try simp at hc4
         replace F:=F.add hc4
         refine W.skip ?_
         refine hK11 _ ?_
         clear hK11 K11
         refine W.seqk fun K12 hK12=>?_
         refine W.block ?_
         refine wDe 10 [] [[],[0],[],[2,0,1],[1,0,2,3],[],[5],[],[7,5,6],[6,5,7,8],[8,7,5,6,9,3,2,0,1,4],[4,1,0,2,3,9,6,5,7,8,10]] ?_
         refine dB [([126,129,130,131,132,133],[],[]),([126,129,130,131,132,133],[true],[]),([124,125,129,130,131,132,133],[false,false],[]),([129,130,131,132,133],[true,true,true],[]),([129,130,131,132,133],[true,true,true,true],[]),([124,125,126,127,128,131],[false,false,false,false,false],[]),([124,125,126,127,128,131],[false,false,false,false,false,true],[]),([124,125,126,127,128,129,130],[false,false,false,false,false,false,false],[]),([124,125,126,127,128],[false,false,false,false,false,true,true,true],[]),([124,125,126,127,128],[false,false,false,false,false,true,true,true,true],[])] 0 10 ?_
         refine dD ?_
         refine oN 2 ?_
         refine WOps.endK ?_
         refine hK12 _ ?_
         clear hK12 K12
         refine rEw ?_
         refine ⟨i+1,lf0,v0,v0⟩
        ·
         try simp at hc4
         replace F:=F.add hc4
         refine W.exit ?_
         refine hK10 _ ?_
         clear hK11 K11 hK10 K10
         refine rK [4] ?_
         refine W.ret ?_
         exact er0 false [] []
end Go.Sim
