/- All masses and errors of small benches: the law answers true. -/
import Derived.Test.YtojjfnhjmfokhaaNe
import Derived.Test.YtojjfnhjmfokhaaNg
import Derived.Test.YtojjfnhjmfokhaaLe
import Derived.Test.YtojjfnhjmfokhaaLn
namespace Go.Sim
open Go.Proofs
set_option maxRecDepth 100000
set_option linter.unusedSimpArgs false
set_option linter.unusedVariables false
attribute [-simp] List.map_set List.map_take List.map_drop
attribute [simp] spn_eta
attribute [local simp] F2_def
theorem made_one {b:Ben}(h:MadeB b 2 1 2 2) (hn:∀m∈b.mas,1≤m.nom∧m.nom≤1000):∃s,OneS b s:=by
  have qs1:=h.ok.s1
  have qs2:=h.scl
  obtain ⟨s,qs⟩:∃s,b.scl=[s]:=by
    cases hc:b.scl with
    | nil=>rw [hc] at qs1;simp at qs1
    | cons s l=>rw [hc] at qs2;exact ⟨s,by rw [List.length_eq_zero_iff.1 (by simpa using qs2:l.length=0)]⟩
  refine ⟨s,h.ok,qs,h.small.2 s (by rw [qs];simp),fun m hm=>?_⟩
  have h1:=h.ok.mas m hm
  have h2:=h.small.1 m hm
  have h3:=hn m hm
  omega
set_option maxHeartbeats 4000000 in
theorem ScaleAll_ok (nums:List Int):ACalls Try.prog 8 [ints nums] [] (fun r o=>r=B true∧o=[]):=by
 have F:=Fx.nil
 refine ent Try.func8 Try.ntmps8 Try.results8 ?_
 refine rK [0] ?_
 refine W.seqR ?_
 refine oN 1 ?_
 refine oC [] ?_
 refine CallT.mk (DieOf_ok nums) (by simp) ?_
 obtain ⟨g,qg⟩:∃f,nums.foldl dieStep 2611923443488327891=f:=⟨_,rfl⟩
 have hg0:=qg
 replace F:=F.add hg0
 refine WOps.norm (by simp [hg0];rfl) ?_
 refine oC [(10000,128)] ?_
 refine CallT.mkE (few_ok g) (fun z17 hz17=>⟨(by simp [hg0]), ?_⟩)
 refine WOps.norm (by simp [hg0];rfl) ?_
 refine oN 2 ?_
 refine oK [3] ?_
 obtain ⟨b,g2⟩:=z17
 have qm:MadeB b 2 1 2 2:=hz17.1
 obtain ⟨s,hb⟩:=made_one qm hz17.2
 have hm2:b.mas.length≤2:=qm.mas
 have hd0:0≤b.days:=qm.ok.days.1
 have hd2:b.days≤2:=qm.days
 have qL:LenB b:=by have h1:=qm.ok.m5;have h2:=qm.ok.w6;have h3:=qm.ok.s3;have h4:=qm.ok.t6;exact ⟨by omega,by omega,by omega,by omega⟩
 have qal:=allF_ok b s hb hm2 hd2
 have qan:=allF_nil hb
 have qas:=allF_some hb
 obtain ⟨A,qA⟩:∃A,allF b s=A:=⟨_,rfl⟩
 have hAl:A.length≤10000000:=by rw [←qA];exact all_len hb hm2 hd2
 rw [qA] at qal qan qas
 replace F:=F.add hm2 |>.add hd0 |>.add hd2 |>.add hAl
 refine W.seqR ?_
 refine oN 2 ?_
 refine oCn [] ?_
 refine ct (qal) ?_
 refine oN 1 ?_
 refine oK [3,4] ?_
 obtain ⟨D,qD⟩:∃D,dd b=D:=⟨_,rfl⟩
 have hDd:b.days+1=(D:Int):=by rw [←qD];unfold dd;omega
 replace F:=F.add hDd
 refine W.weaken (Le.freeze (id:=160) (by simp [hg0,hm2,hd0,hd2,hAl,hDd];rfl)) ?_
 refine W.seqR ?_
 refine oN 1 ?_
 refine oC [] ?_
 refine ct (Offs_ok b qL) ?_
 refine oN 5 ?_
 refine oK [3,4,5,6] ?_
 refine W.seqR ?_
 refine oN 1 ?_
 refine oC [] ?_
 refine ct (Errors_ok b qL 0) ?_
 refine oN 5 ?_
 refine oK [3,4,5,6,7,8] ?_
 refine W.seqk fun K1 hK1=>?_
 by_cases hA:A=[]
 ·
  replace F:=F.add hA
  have hoE:offsE b=9:=(qan hA).1
  have heE:errsE b 0=9:=(qan hA).2
  replace F:=F.add hoE |>.add heE
  refine rK [3,4,5,6,7,8,33] ?_
  refine cT ?_
  refine W.seqR ?_
  refine oN 3 ?_
  refine gT ?_
  refine gT ?_
  refine oN 2 ?_
  refine gC [] ?_
  refine ct (awake_ok) ?_
  refine oN 2 ?_
  refine oK [2] ?_
  refine W.ret ?_
  refine tr ?_
  clear hK1 K1
  exact er0 false [] []
 ·
  replace F:=F.add hA
  obtain ⟨⟨hoE0,hoL0,heE0,heL0⟩,qo,qe⟩:=qas hA
  have hoE:offsE b=0:=hoE0
  have heE:errsE b 0=0:=heE0
  obtain ⟨OL,qOL⟩:∃x,offsL b=x:=⟨_,rfl⟩
  obtain ⟨EL,qEL⟩:∃x,errsL b 0=x:=⟨_,rfl⟩
  have hOL:=qOL
  have hEL:=qEL
  simp only [qOL] at hoL0 qo
  simp only [qEL] at heL0 qe
  have hoL:OL.length=b.mas.length:=hoL0
  have heL:EL.length=D:=by rw [←qD];exact heL0
  have hAn:0<A.length:=List.length_pos_iff.2 hA
  have qin:∀f∈A,f.offs.length=b.mas.length∧∃l,f.errs=[l]∧l.length=D:=fun f hf=>by
    rw [←qA] at hf
    obtain ⟨k1,k2⟩:=(allF_mem hb).1 hf
    refine ⟨k1.offs.1, ?_⟩
    have k3:=k1.errs
    rw [hb.scl] at k3
    cases he:f.errs with
    | nil=>rw [he] at k3;have:=k3.1;simp at this
    | cons l r =>
      rw [he] at k3
      have h0:r=[]:=List.length_eq_zero_iff.1 (by simpa using k3.1)
      subst h0
      exact ⟨l,rfl,by rw [←qD];exact (k3.2 0 (by simp)).row.len⟩
  replace F:=F.add hoE |>.add heE |>.add hOL |>.add hEL |>.add hoL |>.add heL |>.add hAn
  refine rK [3,4,5,6,7,8,33] ?_
  refine cF ?_
  refine W.skip ?_
  refine hK1 _ ?_
  clear hK1 K1
  refine W.seqk fun K2 hK2=>?_
  refine W.seqR ?_
  refine oN 3 ?_
  refine gT ?_
  refine gT ?_
  refine oN 2 ?_
  refine gT ?_
  refine gT ?_
  refine gT ?_
  refine gT ?_
  refine gT ?_
  refine gT ?_
  refine oN 2 ?_
  refine gT ?_
  refine gT ?_
  refine gT ?_
  refine gT ?_
  refine gTw ?_
  refine gT ?_
  refine oN 1 ?_
  refine oK [4,5,7,64] ?_
  refine cF ?_
  refine W.skip ?_
  refine hK2 _ ?_
  clear hK2 K2
  refine W.seqk fun K3 hK3=>?_
  refine rK [4,5,7,9] ?_
  refine W.block ?_
  refine lpa (α:=Nat) [4,5,7] [10,67,85,88,102,113,114] [] (fun i=>[(9,I i)]) (fun i=>[]) (fun i=>i≤OL.length) (fun i=>OL.length-i) 0 v0 ?_
  ·
   intro i hI0
   simp only [List.cons_append,List.nil_append]
   try dsimp only at hI0
   replace F:=F.add hI0
   refine W.seqk fun K4 hK4=>?_
   refine rK [4,5,7,9,68] ?_
   refine it (fun hc4=>?_) (fun hc4=>?_)
   ·
    try simp at hc4
    replace F:=F.add hc4
    refine W.skip ?_
    refine hK4 _ ?_
    clear hK4 K4
    refine W.seqk fun K5 hK5=>?_
    refine W.block ?_
    have hil:i<OL.length:=by omega
    obtain ⟨X,qX⟩:∃X:Nat→Spn,X=spnN (fun k=>nth (A[k]?.getD ⟨[],[]⟩).offs i):=⟨_,rfl⟩
    obtain ⟨⟨p,q⟩,qpq⟩:∃x,OL[i]=x:=⟨_,rfl⟩
    have hpq:=qpq
    have hXn:X A.length=⟨p,q⟩:=by rw [qX,←qpq];exact qo i hil
    obtain ⟨⟨os,es⟩,qA0⟩:∃f,A[0]=f:=⟨_,rfl⟩
    have hA0:=qA0
    obtain ⟨qi1,l0,qi2,qi3⟩:=qin _ (List.getElem_mem hAn)
    rw [qA0] at qi1 qi2
    dsimp only at qi1 qi2
    have hio:i<os.length:=by omega
    obtain ⟨v,qv⟩:∃v,os[i]=v:=⟨_,rfl⟩
    have hov:=qv
    have hX0:X 0=⟨v,v⟩:=by
      rw [qX];unfold spnN
      rw [List.getElem?_eq_getElem hAn,qA0]
      show (⟨nth os i,nth os i⟩:Spn)=_
      rw [nth_get hio,qv]
    replace F:=F.add hil |>.add hpq |>.add hXn |>.add hA0 |>.add hio |>.add hov |>.add hX0
    refine wD 16 [] [[],[0],[0,1],[1,0,2],[],[4,2,0,1,3],[3,1,0,2,4,5],[],[7],[7,8],[8,7,9],[],[11,9,7,8,10],[10,8,7,9,11,12],[12,11,9,7,8,10,13,5,4,2,0,1,3,6],[],[6,3,1,0,2,4,5,13,10,8,7,9,11,12,14,15]] ?_
    refine dB [([75,78,79,80,81,82,83,84,10],[],[]),([75,78,79,80,81,82,83,84,10],[true],[]),([75,78,79,80,81,82,83,84,10],[true,true],[]),([75,78,79,80,81,82,83,84,10],[true,true,true],[]),([71,72,73,74,78,79,80,81,82,83,84,10],[false,false,false,false],[]),([78,79,80,81,82,83,84,10],[true,true,true,true,true],[]),([78,79,80,81,82,83,84,10],[true,true,true,true,true,true],[]),([71,72,73,74,75,76,77,82,10],[false,false,false,false,false,false,false],[]),([71,72,73,74,75,76,77,82,10],[false,false,false,false,false,false,false,true],[]),([71,72,73,74,75,76,77,82,10],[false,false,false,false,false,false,false,true,true],[]),([71,72,73,74,75,76,77,82,10],[false,false,false,false,false,false,false,true,true,true],[]),([71,72,73,74,75,76,77,78,79,80,81,10],[false,false,false,false,false,false,false,false,false,false,false],[]),([71,72,73,74,75,76,77,10],[false,false,false,false,false,false,false,true,true,true,true,true],[]),([71,72,73,74,75,76,77,10],[false,false,false,false,false,false,false,true,true,true,true,true,true],[])] 2 14 ?_
    refine dC [10] [true,true,true,true,true,true,true,true,true,true,true,true,true,true] [] [] ?_
    refine cd (lspan_ok v v) ?_
    refine dB [([71,72,73,74,75,76,77,78,79,80,81,82,83,84,85],[false,false,false,false,false,false,false,false,false,false,false,false,false,false,false],[])] 0 16 ?_
    refine dD ?_
    refine oN 1 ?_
    refine oK [4,5,7,9,10] ?_
    refine W.seqk fun K6 hK6=>?_
    refine rK [4,5,7,9,10,11] ?_
    refine W.block ?_
    refine lpa (α:=Nat) [4,5,7,9,10] [88,102,113,114] [80] (fun k=>[(11,I k)]) (fun k=>[(80,.row false 50 2 [.agg [I (X k).lo,I (X k).hi]])]) (fun k=>k≤A.length) (fun k=>A.length-k) 0 v0 ?_
    ·
     intro k hI1
     simp only [List.cons_append,List.nil_append]
     try dsimp only at hI1
     replace F:=F.add hI1
     refine W.seqk fun K7 hK7=>?_
     refine rK [4,5,7,9,10,11,89] ?_
     refine it (fun hc5=>?_) (fun hc5=>?_)
     ·
      try simp at hc5
      replace F:=F.add hc5
      refine W.skip ?_
      refine hK7 _ ?_
      clear hK7 K7
      refine W.seqk fun K8 hK8=>?_
      refine W.block ?_
      have hkl:k<A.length:=by omega
      obtain ⟨⟨os2,es2⟩,qAk⟩:∃f,A[k]=f:=⟨_,rfl⟩
      have hAk:=qAk
      obtain ⟨qk1,l2,qk2,qk3⟩:=qin _ (List.getElem_mem hkl)
      rw [qAk] at qk1 qk2
      dsimp only at qk1 qk2
      have hio2:i<os2.length:=by omega
      obtain ⟨v2,qv2⟩:∃v,os2[i]=v:=⟨_,rfl⟩
      have hov2:=qv2
      obtain ⟨⟨a,c⟩,qac⟩:∃x,X k=x:=⟨_,rfl⟩
      have hac:=qac
      obtain ⟨w1,qw1⟩:∃w,(if a<v2 then a else v2)=w:=⟨_,rfl⟩
      have hw1:=qw1
      have hw1b:(if v2<a then v2 else a)=w1:=by rw [←qw1];split<;>split<;>omega
      obtain ⟨w2,qw2⟩:∃w,(if c<v2 then v2 else c)=w:=⟨_,rfl⟩
      have hw2:=qw2
      have hw2b:(if v2<c then c else v2)=w2:=by rw [←qw2];split<;>split<;>omega
      have hXs:X (k+1)=⟨w1,w2⟩:=by
        have e:X (k+1)=⟨min (X k).lo v2,max (X k).hi v2⟩:=by
          rw [qX]
          show (⟨min _ (nth (A[k]?.getD ⟨[],[]⟩).offs i),max _ (nth (A[k]?.getD ⟨[],[]⟩).offs i)⟩:Spn)=_
          rw [List.getElem?_eq_getElem hkl,qAk]
          show (⟨min _ (nth os2 i),max _ (nth os2 i)⟩:Spn)=_
          rw [nth_get hio2,qv2]
        rw [e,qac]
        dsimp only
        rw [show min a v2=w1 by rw [←qw1];split<;>omega,show max c v2=w2 by rw [←qw2];split<;>omega]
      replace F:=F.add hkl |>.add hAk |>.add hio2 |>.add hov2 |>.add hac |>.add hw1 |>.add hw1b |>.add hw2 |>.add hw2b |>.add hXs
      refine wDe 22 [] [[],[0],[],[],[3,2],[2,3,4],[4,3,2,5],[],[7,5,2,3,4,6],[6,4,3,2,5,7,8],[8,7,5,2,3,4,6,9,0,1],[],[11],[],[],[14,13],[13,14,15],[15,14,13,16],[],[18,16,13,14,15,17],[17,15,14,13,16,18,19],[19,18,16,13,14,15,17,20,11,12],[12,11,20,17,15,14,13,16,18,19,21,1,0,9,6,4,3,2,5,7,8,10],[10,8,7,5,2,3,4,6,9,0,1,21,19,18,16,13,14,15,17,20,11,12,22]] ?_
      refine dB [([94,95,96,97,98,99,100,101,103,104,105,106,107,108,109,110,111,112,113],[],[]),([94,95,96,97,98,99,100,101,103,104,105,106,107,108,109,110,111,112,113],[true],[]),([92,93,95,99,103,104,105,106,107,108,109,110,111,112,113],[false,false],[]),([92,93,94,99,103,104,105,106,107,108,109,110,111,112,113],[false,false,false],[]),([92,93,99,103,104,105,106,107,108,109,110,111,112,113],[false,false,true,true],[]),([92,93,99,103,104,105,106,107,108,109,110,111,112,113],[false,false,true,true,true],[]),([92,93,99,103,104,105,106,107,108,109,110,111,112,113],[false,false,true,true,true,true],[]),([92,93,94,95,96,97,98,103,104,105,106,107,108,109,110,111,112,113],[false,false,false,false,false,false,false],[]),([92,93,103,104,105,106,107,108,109,110,111,112,113],[false,false,true,true,true,true,true,true],[]),([92,93,103,104,105,106,107,108,109,110,111,112,113],[false,false,true,true,true,true,true,true,true],[]),([103,104,105,106,107,108,109,110,111,112,113],[true,true,true,true,true,true,true,true,true,true],[]),([92,93,94,95,96,97,98,99,100,101,102,105,106,107,108,109,110,111,112],[false,false,false,false,false,false,false,false,false,false,false],[]),([92,93,94,95,96,97,98,99,100,101,102,105,106,107,108,109,110,111,112],[false,false,false,false,false,false,false,false,false,false,false,true],[]),([92,93,94,95,96,97,98,99,100,101,102,103,104,106,110],[false,false,false,false,false,false,false,false,false,false,false,false,false],[]),([92,93,94,95,96,97,98,99,100,101,102,103,104,105,110],[false,false,false,false,false,false,false,false,false,false,false,false,false,false],[]),([92,93,94,95,96,97,98,99,100,101,102,103,104,110],[false,false,false,false,false,false,false,false,false,false,false,false,false,true,true],[]),([92,93,94,95,96,97,98,99,100,101,102,103,104,110],[false,false,false,false,false,false,false,false,false,false,false,false,false,true,true,true],[]),([92,93,94,95,96,97,98,99,100,101,102,103,104,110],[false,false,false,false,false,false,false,false,false,false,false,false,false,true,true,true,true],[]),([92,93,94,95,96,97,98,99,100,101,102,103,104,105,106,107,108,109],[false,false,false,false,false,false,false,false,false,false,false,false,false,false,false,false,false,false],[]),([92,93,94,95,96,97,98,99,100,101,102,103,104],[false,false,false,false,false,false,false,false,false,false,false,false,false,true,true,true,true,true,true],[]),([92,93,94,95,96,97,98,99,100,101,102,103,104],[false,false,false,false,false,false,false,false,false,false,false,false,false,true,true,true,true,true,true,true],[]),([92,93,94,95,96,97,98,99,100,101,102],[false,false,false,false,false,false,false,false,false,false,false,true,true,true,true,true,true,true,true,true,true],[])] 0 22 ?_
      refine dD ?_
      refine oC [] ?_
      refine ct (lspan_ok w1 w2) ?_
      refine oN 1 ?_
      refine WOps.endK ?_
      refine hK8 _ ?_
      clear hK8 K8
      refine rEw ?_
      refine ⟨k+1,lf0,v0,v0⟩
     ·
      try simp at hc5
      replace F:=F.add hc5
      refine W.exit ?_
      refine hK6 _ ?_
      clear hK7 K7 hK6 K6
      have hkn:k=A.length:=by omega
      replace F:=F.add hkn
      refine wD 5 [] [[],[],[1,0],[0,1,2],[],[4,2,1,0,3]] ?_
      refine dB [([116,119],[],[]),([115,119],[false],[]),([119],[true,true],[]),([119],[true,true,true],[]),([115,116,117,118],[false,false,false,false],[])] 0 5 ?_
      refine dD ?_
      refine oN 1 ?_
      refine oK [4,5,7,9,120] ?_
      refine cF ?_
      refine W.skip ?_
      refine hK5 _ ?_
      clear hK5 K5
      refine rEw ?_
      refine ⟨i+1,lf0,v0,v0⟩
   ·
    try simp at hc4
    replace F:=F.add hc4
    refine W.exit ?_
    refine hK3 _ ?_
    clear hK4 K4 hK3 K3
    refine W.seqk fun K9 hK9=>?_
    refine rK [4,7,12] ?_
    refine W.block ?_
    refine lpa (α:=Nat) [4,7] [13,123,145,148,164,177,178] [] (fun d=>[(12,I d)]) (fun d=>[]) (fun d=>d≤EL.length) (fun d=>EL.length-d) 0 v0 ?_
    ·
     intro d hI2
     simp only [List.cons_append,List.nil_append]
     try dsimp only at hI2
     replace F:=F.add hI2
     refine W.seqk fun K10 hK10=>?_
     refine rK [4,7,12,124] ?_
     refine it (fun hc7=>?_) (fun hc7=>?_)
     ·
      try simp at hc7
      replace F:=F.add hc7
      refine W.skip ?_
      refine hK10 _ ?_
      clear hK10 K10
      refine W.seqk fun K11 hK11=>?_
      refine W.block ?_
      have hdl:d<EL.length:=by omega
      obtain ⟨X,qX⟩:∃X:Nat→Spn,X=spnN (fun k=>nth (nth (A[k]?.getD ⟨[],[]⟩).errs 0) d):=⟨_,rfl⟩
      obtain ⟨⟨p,q⟩,qpq⟩:∃x,EL[d]=x:=⟨_,rfl⟩
      have hpq:=qpq
      have hXn:X A.length=⟨p,q⟩:=by rw [qX,←qpq];exact qe d hdl
      obtain ⟨⟨os,es⟩,qA0⟩:∃f,A[0]=f:=⟨_,rfl⟩
      obtain ⟨qi1,l0,qi2,qi3⟩:=qin _ (List.getElem_mem hAn)
      rw [qA0] at qi1 qi2
      dsimp only at qi1 qi2
      subst qi2
      have hA0:=qA0
      have hio:d<l0.length:=by omega
      obtain ⟨v,qv⟩:∃v,l0[d]=v:=⟨_,rfl⟩
      have hov:=qv
      have hX0:X 0=⟨v,v⟩:=by
        rw [qX];unfold spnN
        rw [List.getElem?_eq_getElem hAn,qA0]
        show (⟨nth l0 d,nth l0 d⟩:Spn)=_
        rw [nth_get hio,qv]
      replace F:=F.add hdl |>.add hpq |>.add hXn |>.add hA0 |>.add hio |>.add hov |>.add hX0
      refine wD 20 [] [[],[0],[0,1],[1,0,2],[2,0,1,3],[3,1,0,2,4],[],[6,4,2,0,1,3,5],[5,3,1,0,2,4,6,7],[],[9],[9,10],[10,9,11],[11,9,10,12],[12,10,9,11,13],[],[15,13,11,9,10,12,14],[14,12,10,9,11,13,15,16],[16,15,13,11,9,10,12,14,17,7,6,4,2,0,1,3,5,8],[],[8,5,3,1,0,2,4,6,7,17,14,12,10,9,11,13,15,16,18,19]] ?_
      refine dB [([133,136,137,138,139,140,141,142,143,144,13],[],[]),([133,136,137,138,139,140,141,142,143,144,13],[true],[]),([133,136,137,138,139,140,141,142,143,144,13],[true,true],[]),([133,136,137,138,139,140,141,142,143,144,13],[true,true,true],[]),([133,136,137,138,139,140,141,142,143,144,13],[true,true,true,true],[]),([133,136,137,138,139,140,141,142,143,144,13],[true,true,true,true,true],[]),([127,128,129,130,131,132,136,137,138,139,140,141,142,143,144,13],[false,false,false,false,false,false],[]),([136,137,138,139,140,141,142,143,144,13],[true,true,true,true,true,true,true],[]),([136,137,138,139,140,141,142,143,144,13],[true,true,true,true,true,true,true,true],[]),([127,128,129,130,131,132,133,134,135,142,13],[false,false,false,false,false,false,false,false,false],[]),([127,128,129,130,131,132,133,134,135,142,13],[false,false,false,false,false,false,false,false,false,true],[]),([127,128,129,130,131,132,133,134,135,142,13],[false,false,false,false,false,false,false,false,false,true,true],[]),([127,128,129,130,131,132,133,134,135,142,13],[false,false,false,false,false,false,false,false,false,true,true,true],[]),([127,128,129,130,131,132,133,134,135,142,13],[false,false,false,false,false,false,false,false,false,true,true,true,true],[]),([127,128,129,130,131,132,133,134,135,142,13],[false,false,false,false,false,false,false,false,false,true,true,true,true,true],[]),([127,128,129,130,131,132,133,134,135,136,137,138,139,140,141,13],[false,false,false,false,false,false,false,false,false,false,false,false,false,false,false],[]),([127,128,129,130,131,132,133,134,135,13],[false,false,false,false,false,false,false,false,false,true,true,true,true,true,true,true],[]),([127,128,129,130,131,132,133,134,135,13],[false,false,false,false,false,false,false,false,false,true,true,true,true,true,true,true,true],[])] 2 18 ?_
      refine dC [13] [true,true,true,true,true,true,true,true,true,true,true,true,true,true,true,true,true,true] [] [] ?_
      refine cd (lspan_ok v v) ?_
      refine dB [([127,128,129,130,131,132,133,134,135,136,137,138,139,140,141,142,143,144,145],[false,false,false,false,false,false,false,false,false,false,false,false,false,false,false,false,false,false,false],[])] 0 20 ?_
      refine dD ?_
      refine oN 1 ?_
      refine oK [4,7,12,13] ?_
      refine W.seqk fun K12 hK12=>?_
      refine rK [4,7,12,13,14] ?_
      refine W.block ?_
      refine lpa (α:=Nat) [4,7,12,13] [148,164,177,178] [104] (fun k=>[(14,I k)]) (fun k=>[(104,.row false 50 2 [.agg [I (X k).lo,I (X k).hi]])]) (fun k=>k≤A.length) (fun k=>A.length-k) 0 v0 ?_
      ·
       intro k hI3
       simp only [List.cons_append,List.nil_append]
       try dsimp only at hI3
       replace F:=F.add hI3
       refine W.seqk fun K13 hK13=>?_
       refine rK [4,7,12,13,14,149] ?_
       refine it (fun hc8=>?_) (fun hc8=>?_)
       ·
        try simp at hc8
        replace F:=F.add hc8
        refine W.skip ?_
        refine hK13 _ ?_
        clear hK13 K13
        refine W.seqk fun K14 hK14=>?_
        refine W.block ?_
        have hkl:k<A.length:=by omega
        obtain ⟨⟨os2,es2⟩,qAk⟩:∃f,A[k]=f:=⟨_,rfl⟩
        obtain ⟨qk1,l2,qk2,qk3⟩:=qin _ (List.getElem_mem hkl)
        rw [qAk] at qk1 qk2
        dsimp only at qk1 qk2
        subst qk2
        have hAk:=qAk
        have hio2:d<l2.length:=by omega
        obtain ⟨v2,qv2⟩:∃v,l2[d]=v:=⟨_,rfl⟩
        have hov2:=qv2
        obtain ⟨⟨a,c⟩,qac⟩:∃x,X k=x:=⟨_,rfl⟩
        have hac:=qac
        obtain ⟨w1,qw1⟩:∃w,(if a<v2 then a else v2)=w:=⟨_,rfl⟩
        have hw1:=qw1
        have hw1b:(if v2<a then v2 else a)=w1:=by rw [←qw1];split<;>split<;>omega
        obtain ⟨w2,qw2⟩:∃w,(if c<v2 then v2 else c)=w:=⟨_,rfl⟩
        have hw2:=qw2
        have hw2b:(if v2<c then c else v2)=w2:=by rw [←qw2];split<;>split<;>omega
        have hXs:X (k+1)=⟨w1,w2⟩:=by
          have e:X (k+1)=⟨min (X k).lo v2,max (X k).hi v2⟩:=by
            rw [qX]
            show (⟨min _ (nth (nth (A[k]?.getD ⟨[],[]⟩).errs 0) d),max _ (nth (nth (A[k]?.getD ⟨[],[]⟩).errs 0) d)⟩:Spn)=_
            rw [List.getElem?_eq_getElem hkl,qAk]
            show (⟨min _ (nth l2 d),max _ (nth l2 d)⟩:Spn)=_
            rw [nth_get hio2,qv2]
          rw [e,qac]
          dsimp only
          rw [show min a v2=w1 by rw [←qw1];split<;>omega,show max c v2=w2 by rw [←qw2];split<;>omega]
        replace F:=F.add hkl |>.add hAk |>.add hio2 |>.add hov2 |>.add hac |>.add hw1 |>.add hw1b |>.add hw2 |>.add hw2b |>.add hXs
        refine wDe 26 [] [[],[0],[],[],[3,2],[2,3,4],[4,3,2,5],[5,2,3,4,6],[6,4,3,2,5,7],[],[9,7,5,2,3,4,6,8],[8,6,4,3,2,5,7,9,10],[10,9,7,5,2,3,4,6,8,11,0,1],[],[13],[],[],[16,15],[15,16,17],[17,16,15,18],[18,15,16,17,19],[19,17,16,15,18,20],[],[22,20,18,15,16,17,19,21],[21,19,17,16,15,18,20,22,23],[23,22,20,18,15,16,17,19,21,24,13,14],[14,13,24,21,19,17,16,15,18,20,22,23,25,1,0,11,8,6,4,3,2,5,7,9,10,12],[12,10,9,7,5,2,3,4,6,8,11,0,1,25,23,22,20,18,15,16,17,19,21,24,13,14,26]] ?_
        refine dB [([154,155,156,157,158,159,160,161,162,163,165,166,167,168,169,170,171,172,173,174,175,176,177],[],[]),([154,155,156,157,158,159,160,161,162,163,165,166,167,168,169,170,171,172,173,174,175,176,177],[true],[]),([152,153,155,161,165,166,167,168,169,170,171,172,173,174,175,176,177],[false,false],[]),([152,153,154,161,165,166,167,168,169,170,171,172,173,174,175,176,177],[false,false,false],[]),([152,153,161,165,166,167,168,169,170,171,172,173,174,175,176,177],[false,false,true,true],[]),([152,153,161,165,166,167,168,169,170,171,172,173,174,175,176,177],[false,false,true,true,true],[]),([152,153,161,165,166,167,168,169,170,171,172,173,174,175,176,177],[false,false,true,true,true,true],[]),([152,153,161,165,166,167,168,169,170,171,172,173,174,175,176,177],[false,false,true,true,true,true,true],[]),([152,153,161,165,166,167,168,169,170,171,172,173,174,175,176,177],[false,false,true,true,true,true,true,true],[]),([152,153,154,155,156,157,158,159,160,165,166,167,168,169,170,171,172,173,174,175,176,177],[false,false,false,false,false,false,false,false,false],[]),([152,153,165,166,167,168,169,170,171,172,173,174,175,176,177],[false,false,true,true,true,true,true,true,true,true],[]),([152,153,165,166,167,168,169,170,171,172,173,174,175,176,177],[false,false,true,true,true,true,true,true,true,true,true],[]),([165,166,167,168,169,170,171,172,173,174,175,176,177],[true,true,true,true,true,true,true,true,true,true,true,true],[]),([152,153,154,155,156,157,158,159,160,161,162,163,164,167,168,169,170,171,172,173,174,175,176],[false,false,false,false,false,false,false,false,false,false,false,false,false],[]),([152,153,154,155,156,157,158,159,160,161,162,163,164,167,168,169,170,171,172,173,174,175,176],[false,false,false,false,false,false,false,false,false,false,false,false,false,true],[]),([152,153,154,155,156,157,158,159,160,161,162,163,164,165,166,168,174],[false,false,false,false,false,false,false,false,false,false,false,false,false,false,false],[]),([152,153,154,155,156,157,158,159,160,161,162,163,164,165,166,167,174],[false,false,false,false,false,false,false,false,false,false,false,false,false,false,false,false],[]),([152,153,154,155,156,157,158,159,160,161,162,163,164,165,166,174],[false,false,false,false,false,false,false,false,false,false,false,false,false,false,false,true,true],[]),([152,153,154,155,156,157,158,159,160,161,162,163,164,165,166,174],[false,false,false,false,false,false,false,false,false,false,false,false,false,false,false,true,true,true],[]),([152,153,154,155,156,157,158,159,160,161,162,163,164,165,166,174],[false,false,false,false,false,false,false,false,false,false,false,false,false,false,false,true,true,true,true],[]),([152,153,154,155,156,157,158,159,160,161,162,163,164,165,166,174],[false,false,false,false,false,false,false,false,false,false,false,false,false,false,false,true,true,true,true,true],[]),([152,153,154,155,156,157,158,159,160,161,162,163,164,165,166,174],[false,false,false,false,false,false,false,false,false,false,false,false,false,false,false,true,true,true,true,true,true],[]),([152,153,154,155,156,157,158,159,160,161,162,163,164,165,166,167,168,169,170,171,172,173],[false,false,false,false,false,false,false,false,false,false,false,false,false,false,false,false,false,false,false,false,false,false],[]),([152,153,154,155,156,157,158,159,160,161,162,163,164,165,166],[false,false,false,false,false,false,false,false,false,false,false,false,false,false,false,true,true,true,true,true,true,true,true],[]),([152,153,154,155,156,157,158,159,160,161,162,163,164,165,166],[false,false,false,false,false,false,false,false,false,false,false,false,false,false,false,true,true,true,true,true,true,true,true,true],[]),([152,153,154,155,156,157,158,159,160,161,162,163,164],[false,false,false,false,false,false,false,false,false,false,false,false,false,true,true,true,true,true,true,true,true,true,true,true,true],[])] 0 26 ?_
        refine dD ?_
        refine oC [] ?_
        refine ct (lspan_ok w1 w2) ?_
        refine oN 1 ?_
        refine WOps.endK ?_
        refine hK14 _ ?_
        clear hK14 K14
        refine rEw ?_
        refine ⟨k+1,lf0,v0,v0⟩
       ·
        try simp at hc8
        replace F:=F.add hc8
        refine W.exit ?_
        refine hK12 _ ?_
        clear hK13 K13 hK12 K12
        have hkn:k=A.length:=by omega
        replace F:=F.add hkn
        refine wD 5 [] [[],[],[1,0],[0,1,2],[],[4,2,1,0,3]] ?_
        refine dB [([180,183],[],[]),([179,183],[false],[]),([183],[true,true],[]),([183],[true,true,true],[]),([179,180,181,182],[false,false,false,false],[])] 0 5 ?_
        refine dD ?_
        refine oN 1 ?_
        refine oK [4,7,12,184] ?_
        refine cF ?_
        refine W.skip ?_
        refine hK11 _ ?_
        clear hK11 K11
        refine rEw ?_
        refine ⟨d+1,lf0,v0,v0⟩
     ·
      try simp at hc7
      replace F:=F.add hc7
      refine W.exit ?_
      refine hK9 _ ?_
      clear hK10 K10 hK9 K9
      refine W.seqR ?_
      refine oC [] ?_
      refine ct (awake_ok) ?_
      refine oN 1 ?_
      refine oK [2] ?_
      refine W.ret ?_
      exact er0 false [] []
end Go.Sim
