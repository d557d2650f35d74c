/- The fewest results that contradict each other: the law answers true. -/
import Derived.Test.YtojjfnhjmfokhaaLu
import Derived.Test.YtojjfnhjmfokhaaQs
import Derived.Test.YtojjfnhjmfokhaaOc
namespace Go.Sim
open Go.Proofs
set_option maxRecDepth 100000
set_option linter.unusedSimpArgs false
set_option linter.unusedVariables false
attribute [-simp] List.map_set List.map_take List.map_drop
attribute [simp] spn_eta
set_option maxHeartbeats 4000000 in
theorem ScaleClash_ok (nums:List Int):ACalls Try.prog 9 [ints nums] [] (fun r o=>r=B true∧o=[]):=by
 have F:=Fx.nil
 refine ent Try.func9 Try.ntmps9 Try.results9 ?_
 refine rK [0] ?_
 refine W.seqR ?_
 refine oN 1 ?_
 refine oC [] ?_
 refine CallT.mk (DieOf_ok nums) (by simp) ?_
 obtain ⟨f,qf⟩:∃f,nums.foldl dieStep 2611923443488327891=f:=⟨_,rfl⟩
 have hf:=qf
 replace F:=F.add hf
 refine WOps.norm (by simp [hf];rfl) ?_
 refine oC [(10000,144)] ?_
 refine CallT.mkE (BenchOf_ok f 3 2 3 3 (by omega) (by omega) (by omega) (by omega)) (fun z19 hz19=>⟨(by simp [hf]), ?_⟩)
 refine WOps.norm (by simp [hf];rfl) ?_
 refine oN 9 ?_
 refine oK [3] ?_
 obtain ⟨⟨b,fc,hb⟩,g⟩:=z19
 obtain ⟨qmm,_,_⟩:=hz19
 have hM:MadeB b 3 2 3 3:=qmm
 have hm2:b.wei.length≤3:=hM.wei
 have hm4:b.tri.length≤3:=hM.tri
 have qv:=hM.ok
 have qlb:=made_len hM (by omega) (by omega) (by omega)
 obtain ⟨N,qN⟩:∃N,resN b=N:=⟨_,rfl⟩
 have qN2:b.wei.length+b.tri.length=N:=qN
 have hNi:(b.wei.length:Int)+(b.tri.length:Int)=(N:Int):=by omega
 have hN6:N≤6:=by omega
 replace F:=F.add hM |>.add hm2 |>.add hm4 |>.add hNi |>.add hN6
 by_cases hla:learnB b (allR b)=true
 ·
  replace F:=F.add hla
  obtain ⟨qc1,qc2,qc3⟩:=clash_none qv hla
  have hov:optV (clashL b) = .val (.slice none 0 0):=by rw [qc1];rfl
  have hce:clashE b=3:=qc2
  have hoe:offsE b=0:=qc3
  replace F:=F.add hov |>.add hce |>.add hoe
  refine W.seqR ?_
  refine oN 1 ?_
  refine oC [] ?_
  refine ct (Clash_ok b qlb) ?_
  refine oN 5 ?_
  refine oK [3,6,7] ?_
  refine W.seqR ?_
  refine oN 1 ?_
  refine oC [] ?_
  refine ct (Offs_ok b qlb) ?_
  refine oN 5 ?_
  refine oK [3,6,7,9] ?_
  refine W.seqk fun K1 hK1=>?_
  refine rK [3,6,7,9,34] ?_
  refine cT ?_
  refine W.seqR ?_
  refine oN 3 ?_
  refine gT ?_
  refine gT ?_
  refine gT ?_
  refine oN 2 ?_
  refine gC [] ?_
  refine ct (awake_ok) ?_
  refine oN 2 ?_
  refine oK [2] ?_
  refine W.ret ?_
  refine tr ?_
  clear hK1 K1
  exact er0 false [] []
 ·
  replace F:=F.add hla
  have qlf:learnB b (allR b)=false:=by simpa using hla
  have hoe:offsE b=9:=clash_offs qv qlf
  obtain ⟨c,p,qc1,qc2,qc3,qc4,qc5,qc6,qc7⟩:=clash_first qv qlf
  have qc8:p<(choN (resN b) c.length 0).length∧(choN (resN b) c.length 0)[p]?=some c∧∀i,i<p→∀d,(choN (resN b) c.length 0)[i]?=some d→¬BadL b d:=by
    obtain ⟨h1,h2,h3⟩:=qc6
    refine ⟨h1,by rw [List.getElem?_eq_getElem h1,h2],fun i hi d hd=>?_⟩
    have:=h3 i hi
    rw [List.getElem?_eq_getElem (by omega)] at hd
    cases hd;exact this
  rw [qN] at qc4 qc7 qc8
  have hov:optV (clashL b) = .imm ((intL c).map I):=by rw [qc1];rfl
  have hce:clashE b=0:=qc2
  have hil:(intL c).length=c.length:=intL_len c
  have hc1l:1≤c.length:=qc3
  have hcN:c.length≤N:=qc4
  have hcNi:(c.length:Int)≤(N:Int):=by omega
  have hcni:¬(N:Int)<(c.length:Int):=by omega
  have hcz:¬(c.length:Int)=0:=by omega
  have hcne:¬c=[]:=fun e=>by rw [e] at hc1l;simp at hc1l
  replace F:=F.add hoe |>.add hov |>.add hce |>.add hil |>.add hc1l |>.add hcN |>.add hcNi |>.add hcni |>.add hcz |>.add hcne
  refine W.seqR ?_
  refine oN 1 ?_
  refine oC [] ?_
  refine ct (Clash_ok b qlb) ?_
  refine oN 5 ?_
  refine oK [3,6,7] ?_
  refine W.seqR ?_
  refine oN 1 ?_
  refine oC [] ?_
  refine ct (Offs_ok b qlb) ?_
  refine oN 5 ?_
  refine oK [3,6,7,9] ?_
  refine W.seqk fun K2 hK2=>?_
  refine rK [3,6,7,9,34] ?_
  refine cF ?_
  refine W.skip ?_
  refine hK2 _ ?_
  clear hK2 K2
  refine rKw [3,6,7,9,10] ?_
  refine W.seqk fun K3 hK3=>?_
  refine W.seqR ?_
  refine oN 3 ?_
  refine gT ?_
  refine gT ?_
  refine oN 2 ?_
  refine gT ?_
  refine gT ?_
  refine gT ?_
  refine oN 2 ?_
  refine gX ?_
  refine gX ?_
  refine gX ?_
  refine gX ?_
  refine oN 1 ?_
  refine oK [3,6,10,68] ?_
  refine cF ?_
  refine W.skip ?_
  refine hK3 _ ?_
  clear hK3 K3
  refine W.seqk fun K4 hK4=>?_
  refine rK [3,6,10,11] ?_
  refine W.block ?_
  refine lpa (α:=Nat) [3,6,10] [71,77,80,90,91,99,103] [] (fun k=>[(11,I ((k:Int)+1))]) (fun k=>[]) (fun k=>k+1≤c.length) (fun k=>c.length-k) 0 v0 ?_
  ·
   intro k hI0
   simp only [List.cons_append,List.nil_append]
   try dsimp only at hI0
   replace F:=F.add hI0
   refine W.seqk fun K5 hK5=>?_
   refine rK [3,6,10,11,72] ?_
   refine it (fun hc4=>?_) (fun hc4=>?_)
   ·
    try simp at hc4
    replace F:=F.add hc4
    refine W.skip ?_
    refine hK5 _ ?_
    clear hK5 K5
    refine W.seqk fun K6 hK6=>?_
    refine W.block ?_
    have hkN:k+1≤N:=by omega
    obtain ⟨C,qC⟩:∃C,choN N (k+1) 0=C:=⟨_,rfl⟩
    have ihc:=Choices_ok N (by omega) (k+1) 0 (by omega) (by omega)
    rw [qC] at ihc
    have qch:ACalls Try.prog 46 [I (0:Int),I N,I ((k:Int)+1)] [] (fun r o=>r=choV C∧o=[]):=by simpa using ihc
    have hCl:C.length≤4096:=by
      rw [←qC]
      exact Nat.le_trans (choN_len (k+1) 0 (by omega)) (Nat.le_trans (Nat.pow_le_pow_right (by decide) (show N-0≤12 by omega)) (by decide))
    have qpc:k+1=c.length→p<C.length∧C[p]?=some c∧∀i,i<p→∀d,C[i]?=some d→¬BadL b d:=fun e=>by
      rw [←qC,e];exact qc8
    replace F:=F.add hkN |>.add hCl
    refine W.seqR ?_
    refine oN 2 ?_
    refine oC [] ?_
    refine ct (qch) ?_
    refine oN 1 ?_
    refine oK [3,6,10,11,12] ?_
    refine rK [3,6,10,11,12,13] ?_
    refine W.block ?_
    refine lpa (α:=Nat) [3,6,10,11,12] [80,90,91,99,103] [] (fun j=>[(13,I j)]) (fun j=>[]) (fun j=>j≤C.length∧(k+1=c.length→j≤p)) (fun j=>C.length-j) 0 v0 ?_
    ·
     intro j hI1
     simp only [List.cons_append,List.nil_append]
     try dsimp only at hI1
     obtain ⟨hj,kp⟩:=hI1
     replace F:=F.add hj
     refine W.seqk fun K7 hK7=>?_
     refine rK [3,6,10,11,12,13,81] ?_
     refine it (fun hc5=>?_) (fun hc5=>?_)
     ·
      try simp at hc5
      replace F:=F.add hc5
      refine W.skip ?_
      refine hK7 _ ?_
      clear hK7 K7
      refine W.seqk fun K8 hK8=>?_
      refine W.block ?_
      have hjC:j<C.length:=by omega
      obtain ⟨d,qd⟩:∃d,C[j]=d:=⟨_,rfl⟩
      have hdj:=qd
      have hnr:natsR d = .imm ((intL d).map I):=rfl
      have qdm:d∈choN N (k+1) 0:=by rw [qC,←qd];exact List.getElem_mem hjC
      obtain ⟨qd1,qd2⟩:=choN_mem.1 qdm
      have qdl:∀i∈d,i<resN b:=by rw [qN];exact qd2.lt
      have qds:=intL_lt qdl
      have qdi:(intL d).length=k+1:=by rw [intL_len];exact qd1
      have qw6:=selWei_len b (intL d)
      have qt6:=selTri_len b (intL d)
      have qv2:=only_valid qv qds (by omega) (by omega)
      have qob:=only_bad qdl qv2
      obtain ⟨o,qo⟩:∃o,onlyB b (intL d)=o:=⟨_,rfl⟩
      have qon:=only_ok b (intL d) qds (by omega) (by omega) (by omega)
      rw [qo] at qon qv2 qob
      have qlo:LenB o:=⟨by rw [←qo];exact qlb.mas,by rw [←qo];show (selWei b (intL d)).length≤1000;omega,by rw [←qo];exact qlb.scl,by rw [←qo];show (selTri b (intL d)).length≤1000;omega⟩
      obtain ⟨E,qE⟩:∃E,offsE o=E:=⟨_,rfl⟩
      have hE:=qE
      have qEk:=qE.symm.trans (offE_kn qv2)
      replace F:=F.add hjC |>.add hdj |>.add hnr |>.add hE
      by_cases hdc:d=c
      ·
       replace F:=F.add hdc
       have hE9:E=9:=qEk.trans (kn_no (qob.2 (by rw [hdc];exact qc5)))
       subst hdc
       have hdc:True:=trivial
       replace F:=F.add hE9 |>.add hdc
       refine wD 11 [] [[],[],[],[2,1],[1,2,3],[3,2,1,4,0],[0,4,1,2,3,5],[5,3,2,1,4,0,6],[6,0,4,1,2,3,5,7],[6,0,4,1,2,3,5,7],[7,5,3,2,1,4,0,6,8],[8,10,7,5,3,2,1,4,0,6,9]] ?_
       refine dB [([86,87,88,89],[],[]),([85,87],[false],[]),([85,86],[false,false],[]),([85],[false,true,true],[]),([85],[false,true,true,true],[])] 6 5 ?_
       refine dC [] [true,true,true,true,true] [] [] ?_
       refine cd (qon) ?_
       refine dC [] [true,true,true,true,true,true] [] [] ?_
       refine cd (Offs_ok o qlo) ?_
       refine dB [([],[true,true,true,true,true,true,true],[]),([93],[true,true,true,true,true,true,true,true],[]),([92,14],[true,true,true,true,true,true,true,true,false],[]),([93],[true,true,true,true,true,true,true,true,true,false],[])] 0 11 ?_
       refine dD ?_
       refine oN 1 ?_
       refine oK [3,6,10,11,12,13,15] ?_
       refine W.seqk fun K9 hK9=>?_
       refine W.seqR ?_
       refine oN 5 ?_
       refine oC [] ?_
       refine ct (SameInts_ok (intL d) (intL d)) ?_
       refine oK [3,6,10,11,12,13,15,99] ?_
       refine cT ?_
       refine W.seqR ?_
       refine oN 3 ?_
       refine gC [] ?_
       refine ct (awake_ok) ?_
       refine oN 2 ?_
       refine oK [2] ?_
       refine W.ret ?_
       refine tr (br (tr (tr (br (br (tr (tr (br (tr ?_)))))))))
       clear hK9 K9 hK8 K8 hK6 K6 hK4 K4
       exact er0 false [] []
      ·
       replace F:=F.add hdc
       have hdi:¬intL d=intL c:=fun h=>hdc (intL_inj h)
       have qjp:k+1=c.length→j<p:=fun e=>by
         obtain ⟨g1,g2,g3⟩:=qpc e
         have h1:=kp e
         by_cases e2:j=p
         · subst e2
           rw [List.getElem?_eq_getElem hjC,qd] at g2
           exact absurd (Option.some.inj g2) hdc
         · omega
       have qnb:¬BadL b d:=by
         by_cases e:k+1=c.length
         · obtain ⟨g1,g2,g3⟩:=qpc e
           exact g3 j (qjp e) d (by rw [List.getElem?_eq_getElem hjC,qd])
         · exact qc7 (k+1) (by omega) d qdm
       have hE0:E=0:=by
         rw [qEk]
         unfold knE
         rw [if_neg fun h=>qnb (qob.1 h)]
       replace F:=F.add hdi |>.add hE0
       refine wD 11 [] [[],[],[],[2,1],[1,2,3],[3,2,1,4,0],[0,4,1,2,3,5],[5,3,2,1,4,0,6],[6,0,4,1,2,3,5,7],[6,0,4,1,2,3,5,7],[7,5,3,2,1,4,0,6,8],[8,10,7,5,3,2,1,4,0,6,9]] ?_
       refine dB [([86,87,88,89],[],[]),([85,87],[false],[]),([85,86],[false,false],[]),([85],[false,true,true],[]),([85],[false,true,true,true],[])] 6 5 ?_
       refine dC [] [true,true,true,true,true] [] [] ?_
       refine cd (qon) ?_
       refine dC [] [true,true,true,true,true,true] [] [] ?_
       refine cd (Offs_ok o qlo) ?_
       refine dB [([],[true,true,true,true,true,true,true],[]),([93],[true,true,true,true,true,true,true,true],[]),([92,14],[true,true,true,true,true,true,true,true,false],[]),([93],[true,true,true,true,true,true,true,true,true,false],[])] 0 11 ?_
       refine dD ?_
       refine oN 1 ?_
       refine oK [3,6,10,11,12,13,15] ?_
       refine W.seqk fun K10 hK10=>?_
       refine W.seqR ?_
       refine oN 5 ?_
       refine oC [] ?_
       refine ct (SameInts_ok (intL d) (intL c)) ?_
       refine oK [3,6,10,11,12,13,15,99] ?_
       refine cF ?_
       refine W.skip ?_
       refine hK10 _ ?_
       clear hK10 K10
       refine rK [3,6,10,11,12,13,106] ?_
       refine cF ?_
       refine W.skip ?_
       refine hK8 _ ?_
       clear hK8 K8
       refine rEw ?_
       refine ⟨j+1,lf0, ?_,v0⟩
       ·
        first | exact ⟨by omega,qjp⟩ | exact ⟨by omega,fun e=>by have:=qjp e;omega⟩ | omega
     ·
      try simp at hc5
      replace F:=F.add hc5
      refine W.exit ?_
      refine hK6 _ ?_
      clear hK7 K7 hK6 K6
      have hk2:k+1<c.length:=by
        by_cases e:k+1=c.length
        · obtain ⟨g1,g2,g3⟩:=qpc e
          have h1:=kp e
          exfalso;omega
        · omega
      replace F:=F.add hk2
      refine rEw ?_
      refine ⟨k+1,lf0, ?_,v0⟩
      ·
       first | exact ⟨by omega,qjp⟩ | exact ⟨by omega,fun e=>by have:=qjp e;omega⟩ | omega
   ·
    try simp at hc4
    replace F:=F.add hc4
    refine W.exit ?_
    refine hK4 _ ?_
    clear hK5 K5 hK4 K4
    refine rK [2] ?_
    refine W.ret ?_
    exact er0 false [] []
end Go.Sim
