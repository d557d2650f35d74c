/- Benches made of numbers, with masses and scales of their own. -/
import Derived.Test.YtojjfnhjmfokhaaLq
import Derived.Test.YtojjfnhjmfokhaaQu
namespace Go.Sim
open Go.Proofs
set_option maxRecDepth 100000
set_option linter.unusedSimpArgs false
set_option linter.unusedVariables false
attribute [-simp] List.map_set List.map_take List.map_drop
attribute [simp] spn_eta
abbrev benO (b:Ben):AV:=.agg [.own 20000 0 b.mas.length,weiV b.wei,.own 20001 0 b.scl.length,triV b.tri,I b.days]
set_option maxHeartbeats 4000000 in
theorem BenchOf_own (f0:Int) (p q r d:Nat) (hp:1≤p∧p≤5) (hq:1≤q∧q≤3) (hr:r≤6) (hd:d≤8):ACalls Try.prog 16 [.ptr 10000 0 0,I p,I q,I r,I d] [(10000,die f0)] (fun z o=>∃x:(Ben×Fac×Bool)×Int,z = .tup [benO x.1.1,facV x.1.2.1,B x.1.2.2]∧o=[(10000,die x.2),(20000,.row true 92 3 (x.1.1.mas.map M3)),(20001,.row true 95 4 (x.1.1.scl.map C4))]∧(MadeB x.1.1 p q r d∧FacOk x.1.1 x.1.2.1∧x.1.2.2=holdB x.1.1 x.1.2.1)):=by
 have F:=Fx.nil
 replace F:=F.add hr |>.add hd
 refine ent Try.func16 Try.ntmps16 Try.results16 ?_
 have hp1:=hp.1
 have hp5:=hp.2
 have hq1:=hq.1
 have hq3:=hq.2
 replace F:=F.add hp1 |>.add hp5 |>.add hq1 |>.add hq3
 refine rK [0,1,2,3,4,10,11] ?_
 refine W.seqR ?_
 refine oNw 3 ?_
 refine oC [(10000,10000)] ?_
 refine CallT.mkE (Cast_E f0 ((d:Int)+1) (by omega) (by omega)) (fun z32 hz32=>⟨(by simp [hr,hd,hp1,hp5,hq1,hq3]), ?_⟩)
 obtain ⟨dn,qdn⟩:∃dn:Nat,z32.1=(dn:Int):=⟨z32.1.toNat,by omega⟩
 have hdn:=qdn
 have hdn8:dn≤d:=by omega
 replace F:=F.add hdn |>.add hdn8
 refine WOps.norm (by simp [hr,hd,hp1,hp5,hq1,hq3,hdn,hdn8];rfl) ?_
 refine oN 3 ?_
 refine oK [0,1,2,3,10,11,13] ?_
 refine rK [0,1,2,3,10,11,13,14] ?_
 refine W.seqk fun K1 hK1=>?_
 refine W.seqR ?_
 refine oN 2 ?_
 refine oC [(10000,10000)] ?_
 refine CallT.mkE (From_E z32.2 1 p (by omega) (by omega) (by omega)) (fun z36 hz36=>⟨(by simp [hr,hd,hp1,hp5,hq1,hq3,hdn,hdn8]), ?_⟩)
 obtain ⟨m,qm⟩:∃m:Nat,z36.1=(m:Int):=⟨z36.1.toNat,by omega⟩
 have hmq:=qm
 have hm1:1≤m∧m≤p:=by omega
 replace F:=F.add hmq |>.add hm1
 refine WOps.norm (by simp [hr,hd,hp1,hp5,hq1,hq3,hdn,hdn8,hmq,hm1];rfl) ?_
 refine oN 1 ?_
 refine oK [0,2,3,10,11,13,14,15] ?_
 refine W.block ?_
 refine sno 104 0 0 9000 92 3 ?_
 refine sno 112 0 0 9001 3 1 ?_
 refine lpa (α:=List Mas×List Int×Int×Nat) [0,2,3,10,11,13,14] [16,43,44,47,48,49,51,56,57,60,61,66,67,68] [104,112,9000,9001,10000] (fun x=>[(15,I x.2.2.2)]) (fun x=>[(104,.row false 27 5 [.agg [.own 9000 0 x.1.length,.val (.slice none 0 0),.val (.slice none 0 0),.val (.slice none 0 0),I dn]]),(112,.row false 37 2 [.agg [.own 9001 0 x.2.1.length,.val (.slice none 0 0)]]),(9000,.row true 92 3 (x.1.map M3)),(9001,.row true 3 1 (x.2.1.map I)),(10000,die x.2.2.1)]) (fun x=>Side MasF x.1 x.2.1∧x.1.length+x.2.2.2=m) (fun x=>x.2.2.2) ([],[],z36.2,m) ?_ ?_
 ·
  first
  | exact ⟨Side.nil,by show 0+m=m;omega⟩
  | exact ⟨Side.nil,by show 0+sn=sn;omega⟩
  | exact ⟨fun w hw=>(by cases hw),by show 0+wn=wn;omega⟩
  | exact ⟨fun w hw=>(by cases hw),by show 0+tn=tn;omega⟩
  | exact ⟨RowF.one (truV_range z91.2 hz86.2.1),Nat.zero_le _⟩
 ·
  intro ⟨ms,os,g,i⟩ hI0
  simp only [List.cons_append,List.nil_append]
  try dsimp only at hI0
  obtain ⟨kms,hlen⟩:=hI0
  replace F:=F.add hlen
  refine W.seqk fun K2 hK2=>?_
  refine rK [0,2,3,10,11,13,14,15,38] ?_
  refine it (fun hc1=>?_) (fun hc1=>?_)
  ·
   try simp at hc1
   replace F:=F.add hc1
   refine W.skip ?_
   refine hK2 _ ?_
   clear hK2 K2
   refine W.seqk fun K3 hK3=>?_
   refine W.block ?_
   refine W.seqR ?_
   refine oN 3 ?_
   refine oC [(10000,10000)] ?_
   refine CallT.mkE (One_E g [3,20] (by simp) (by simp)) (fun z44 hz44=>⟨(by simp [hr,hd,hp1,hp5,hq1,hq3,hdn,hdn8,hmq,hm1,hlen,hc1]), ?_⟩)
   have qz44:z44.1=3∨z44.1=20:=by simpa using hz44
   have hz441:3≤z44.1∧z44.1≤20:=by omega
   replace F:=F.add hz441
   refine WOps.norm (by simp [hr,hd,hp1,hp5,hq1,hq3,hdn,hdn8,hmq,hm1,hlen,hc1,hz441];rfl) ?_
   refine oNw 3 ?_
   refine oC [(10000,10000)] ?_
   refine CallT.mkE (One_E z44.2 [3,20] (by simp) (by simp)) (fun z48 hz48=>⟨(by simp [hr,hd,hp1,hp5,hq1,hq3,hdn,hdn8,hmq,hm1,hlen,hc1,hz441]), ?_⟩)
   have qz48:z48.1=3∨z48.1=20:=by simpa using hz48
   have hz481:3≤z48.1∧z48.1≤20:=by omega
   replace F:=F.add hz481
   refine WOps.norm (by simp [hr,hd,hp1,hp5,hq1,hq3,hdn,hdn8,hmq,hm1,hlen,hc1,hz441,hz481];rfl) ?_
   refine oC [(10000,10000)] ?_
   refine CallT.mkE (Span_E z48.2 (-z44.1) z48.1 (by omega) (by omega) (by omega)) (fun z49 hz49=>⟨(by simp [hr,hd,hp1,hp5,hq1,hq3,hdn,hdn8,hmq,hm1,hlen,hc1,hz441,hz481]), ?_⟩)
   refine WOps.norm (by simp [hr,hd,hp1,hp5,hq1,hq3,hdn,hdn8,hmq,hm1,hlen,hc1,hz441,hz481];rfl) ?_
   refine oN 2 ?_
   refine oK [0,2,3,10,11,13,14,15,16] ?_
   refine W.seqk fun K4 hK4=>?_
   by_cases hz0:castV z49.2 4=0
   ·
    replace F:=F.add hz0
    refine W.seqR ?_
    refine oN 1 ?_
    refine oC [(10000,10000)] ?_
    refine ct (Once_ok z49.2 4 (by omega)) ?_
    refine oK [0,2,3,10,11,13,14,15,16,51] ?_
    refine cT ?_
    refine rE ?_
    refine hK4 _ ?_
    clear hK4 K4
    obtain ⟨g5,qg5⟩:∃g5,castF z49.2 4=g5:=⟨_,rfl⟩
    have hg5:=qg5
    obtain ⟨nm,qnm⟩:∃nm,oneV g5 [5,500,1000]=nm:=⟨_,rfl⟩
    have hnm:=qnm
    obtain ⟨g6,qg6⟩:∃g6,oneF g5 [5,500,1000]=g6:=⟨_,rfl⟩
    have hg6:=qg6
    have qnmr:1≤nm∧nm≤1000:=by
      have h:=oneV_mem g5 [5,500,1000] (by simp)
      rw [qnm] at h
      simp only [List.mem_cons,List.not_mem_nil,or_false] at h
      omega
    have hml8:ms.length≤8:=by omega
    have hol8:os.length≤8:=by have:=kms.1;omega
    replace F:=F.add hg5 |>.add hnm |>.add hg6 |>.add hml8 |>.add hol8
    refine wDe 17 [(4,[10000]),(8,[9000]),(13,[10000]),(15,[9001])] [[],[0],[],[],[3,2],[],[5,2,3,4],[4,3,2,5,6],[6,5,2,3,4,7,0,1],[],[9],[],[],[1,0,7,4,3,2,5,6,8,12,11],[11,12,8,6,5,2,3,4,7,0,1,13],[13,1,0,7,4,3,2,5,6,8,12,11,14,9,10],[8,7,6,5,4,3,2,1,0],[10,9,14,11,12,13,15,0,1,2,3,4,5,6,7,8,16],[17,16,15,14,13,12,11,10,9,8,7,6,5,4,3,2,1,0],[0,1,2,3,4,5,6,7,8,9,10,11,12,13,14,15,16,17,18]] ?_
    refine dB [([55,56,57,58,59,60,62,63,64,65],[],[10000]),([55,56,57,58,59,60,62,63,64,65],[true],[10000]),([53,54,56,58,62,63,64,65],[false,false],[]),([53,54,55,58,62,63,64,65],[false,false,false],[])] 13 4 ?_
    refine dC [53,54,58,62,63,64,65] [false,false,true,true] [] [(10000,10000)] ?_
    refine cd (One_ok g5 [5,500,1000] (by simp)) ?_
    refine dB [([53,54,55,56,57,62,63,64,65],[false,false,false,false,false],[10000]),([53,54,62,63,64,65],[false,false,true,true,true,true],[]),([53,54,62,63,64,65],[false,false,true,true,true,true,true],[])] 9 8 ?_
    refine dAw [62,63,64,65] [true,true,true,true,true,true,true,true] [] [9000] ?_
    refine dB [([53,54,55,56,57,58,59,60,61,64,65,66,67,69],[false,false,false,false,false,false,false,false,false],[10000,9000,10000]),([53,54,55,56,57,58,59,60,61,64,65,66,67,69],[false,false,false,false,false,false,false,false,false,true],[10000,9000,10000]),([53,54,55,56,57,58,59,60,61,62,63,65,69],[false,false,false,false,false,false,false,false,false,false,false],[10000,9000]),([53,54,55,56,57,58,59,60,61,62,63,64,69],[false,false,false,false,false,false,false,false,false,false,false,false],[10000,9000])] 4 13 ?_
    refine dC [62,63,69] [true,true,true,true,true,true,true,true,true,false,false,true,true] [] [(10000,10000)] ?_
    refine cd (True_ok g6 ⟨0,0⟩ (by decide) (by decide) (by decide)) ?_
    refine dB [([62,63,69],[true,true,true,true,true,true,true,true,true,false,false,true,true,true],[])] 2 15 ?_
    refine dAw [69] [true,true,true,true,true,true,true,true,true,true,true,true,true,true,true] [] [9001] ?_
    refine dB [([62,63,64,65,66,67,68],[true,true,true,true,true,true,true,true,true,false,false,false,false,false,false,false],[10000,9001])] 0 17 ?_
    refine dD ?_
    refine WOps.le (Le.exch (x:=488) (y:=9000) (by simp [hr,hd,hp1,hp5,hq1,hq3,hdn,hdn8,hmq,hm1,hlen,hc1,hz441,hz481,hz0,hg5,hnm,hg6,hml8,hol8];rfl)) rfl rfl ?_
    refine WOps.le (Le.exch (x:=544) (y:=9001) (by simp [hr,hd,hp1,hp5,hq1,hq3,hdn,hdn8,hmq,hm1,hlen,hc1,hz441,hz481,hz0,hg5,hnm,hg6,hml8,hol8];rfl)) rfl rfl ?_
    refine oN 3 ?_
    refine WOps.endK ?_
    refine hK3 _ ?_
    clear hK3 K3
    have him:((i:Nat):Int)-1=((i-1:Nat):Int):=by omega
    replace F:=F.add him
    refine rEw ?_
    refine ⟨(ms++[⟨nm,⟨0,0⟩⟩],os++[truV g6 ⟨0,0⟩],truF g6 ⟨0,0⟩,i-1),lf0, ?_,v0⟩
    ·
     first
     | exact ⟨kms.snoc ⟨qnmr,⟨by dsimp only;omega,by dsimp only;omega,by dsimp only;omega⟩,truV_range g6 (x:=⟨0,0⟩) (by decide)⟩,by show (ms++[_]).length+(i-1)=m;rw [len_snoc];omega⟩
     | exact ⟨kms.snoc ⟨qnmr,⟨by dsimp only;omega,hz49.2.1,by dsimp only;omega⟩,truV_range g6 hz49.2.1⟩,by show (ms++[_]).length+(i-1)=m;rw [len_snoc];omega⟩
     | exact ⟨kl.snoc (truV_range gl hz91.2.1),by show e+1≤dn;omega⟩
     | exact ⟨kss.snoc ⟨qss,hed2▸kl⟩,by show (ss++[_]).length+(j-1)=sn;rw [len_snoc];omega⟩
     | exact ⟨mem_snoc kws (weiS_mk hal hcl (fun h=>qbr.2 (qc.trans h)) qdfr qk1r qk2r),by show (ws++[_]).length+(u-1)=wn;rw [len_snoc];omega⟩
     | exact ⟨mem_snoc kts0 (triS_mk hscl hdyl hmil qshr),by show (ts++[_]).length+(w-1)=tn;rw [len_snoc];omega⟩
   ·
    replace F:=F.add hz0
    refine W.seqR ?_
    refine oN 1 ?_
    refine oC [(10000,10000)] ?_
    refine ct (Once_ok z49.2 4 (by omega)) ?_
    refine oK [0,2,3,10,11,13,14,15,16,51] ?_
    refine cF ?_
    refine W.skip ?_
    refine hK4 _ ?_
    clear hK4 K4
    obtain ⟨g5,qg5⟩:∃g5,castF z49.2 4=g5:=⟨_,rfl⟩
    have hg5:=qg5
    obtain ⟨nm,qnm⟩:∃nm,oneV g5 [5,500,1000]=nm:=⟨_,rfl⟩
    have hnm:=qnm
    obtain ⟨g6,qg6⟩:∃g6,oneF g5 [5,500,1000]=g6:=⟨_,rfl⟩
    have hg6:=qg6
    have qnmr:1≤nm∧nm≤1000:=by
      have h:=oneV_mem g5 [5,500,1000] (by simp)
      rw [qnm] at h
      simp only [List.mem_cons,List.not_mem_nil,or_false] at h
      omega
    have hml8:ms.length≤8:=by omega
    have hol8:os.length≤8:=by have:=kms.1;omega
    replace F:=F.add hg5 |>.add hnm |>.add hg6 |>.add hml8 |>.add hol8
    refine wDe 17 [(4,[10000]),(8,[9000]),(13,[10000]),(15,[9001])] [[],[0],[],[],[3,2],[],[5,2,3,4],[4,3,2,5,6],[6,5,2,3,4,7,0,1],[],[9],[],[],[1,0,7,4,3,2,5,6,8,12,11],[11,12,8,6,5,2,3,4,7,0,1,13],[13,1,0,7,4,3,2,5,6,8,12,11,14,9,10],[8,7,6,5,4,3,2,1,0],[10,9,14,11,12,13,15,0,1,2,3,4,5,6,7,8,16],[17,16,15,14,13,12,11,10,9,8,7,6,5,4,3,2,1,0],[0,1,2,3,4,5,6,7,8,9,10,11,12,13,14,15,16,17,18]] ?_
    refine dB [([55,56,57,58,59,60,62,63,64,65],[],[10000]),([55,56,57,58,59,60,62,63,64,65],[true],[10000]),([53,54,56,58,62,63,64,65],[false,false],[]),([53,54,55,58,62,63,64,65],[false,false,false],[])] 13 4 ?_
    refine dC [53,54,58,62,63,64,65] [false,false,true,true] [] [(10000,10000)] ?_
    refine cd (One_ok g5 [5,500,1000] (by simp)) ?_
    refine dB [([53,54,55,56,57,62,63,64,65],[false,false,false,false,false],[10000]),([53,54,62,63,64,65],[false,false,true,true,true,true],[]),([53,54,62,63,64,65],[false,false,true,true,true,true,true],[])] 9 8 ?_
    refine dAw [62,63,64,65] [true,true,true,true,true,true,true,true] [] [9000] ?_
    refine dB [([53,54,55,56,57,58,59,60,61,64,65,66,67,69],[false,false,false,false,false,false,false,false,false],[10000,9000,10000]),([53,54,55,56,57,58,59,60,61,64,65,66,67,69],[false,false,false,false,false,false,false,false,false,true],[10000,9000,10000]),([53,54,55,56,57,58,59,60,61,62,63,65,69],[false,false,false,false,false,false,false,false,false,false,false],[10000,9000]),([53,54,55,56,57,58,59,60,61,62,63,64,69],[false,false,false,false,false,false,false,false,false,false,false,false],[10000,9000])] 4 13 ?_
    refine dC [62,63,69] [true,true,true,true,true,true,true,true,true,false,false,true,true] [] [(10000,10000)] ?_
    refine cd (True_ok g6 z49.1 (by omega) (by omega) (by omega)) ?_
    refine dB [([62,63,69],[true,true,true,true,true,true,true,true,true,false,false,true,true,true],[])] 2 15 ?_
    refine dAw [69] [true,true,true,true,true,true,true,true,true,true,true,true,true,true,true] [] [9001] ?_
    refine dB [([62,63,64,65,66,67,68],[true,true,true,true,true,true,true,true,true,false,false,false,false,false,false,false],[10000,9001])] 0 17 ?_
    refine dD ?_
    refine WOps.le (Le.exch (x:=488) (y:=9000) (by simp [hr,hd,hp1,hp5,hq1,hq3,hdn,hdn8,hmq,hm1,hlen,hc1,hz441,hz481,hz0,hg5,hnm,hg6,hml8,hol8];rfl)) rfl rfl ?_
    refine WOps.le (Le.exch (x:=544) (y:=9001) (by simp [hr,hd,hp1,hp5,hq1,hq3,hdn,hdn8,hmq,hm1,hlen,hc1,hz441,hz481,hz0,hg5,hnm,hg6,hml8,hol8];rfl)) rfl rfl ?_
    refine oN 3 ?_
    refine WOps.endK ?_
    refine hK3 _ ?_
    clear hK3 K3
    have him:((i:Nat):Int)-1=((i-1:Nat):Int):=by omega
    replace F:=F.add him
    refine rEw ?_
    refine ⟨(ms++[⟨nm,z49.1⟩],os++[truV g6 z49.1],truF g6 z49.1,i-1),lf0, ?_,v0⟩
    ·
     first
     | exact ⟨kms.snoc ⟨qnmr,⟨by dsimp only;omega,by dsimp only;omega,by dsimp only;omega⟩,truV_range g6 (x:=⟨0,0⟩) (by decide)⟩,by show (ms++[_]).length+(i-1)=m;rw [len_snoc];omega⟩
     | exact ⟨kms.snoc ⟨qnmr,⟨by dsimp only;omega,hz49.2.1,by dsimp only;omega⟩,truV_range g6 hz49.2.1⟩,by show (ms++[_]).length+(i-1)=m;rw [len_snoc];omega⟩
     | exact ⟨kl.snoc (truV_range gl hz91.2.1),by show e+1≤dn;omega⟩
     | exact ⟨kss.snoc ⟨qss,hed2▸kl⟩,by show (ss++[_]).length+(j-1)=sn;rw [len_snoc];omega⟩
     | exact ⟨mem_snoc kws (weiS_mk hal hcl (fun h=>qbr.2 (qc.trans h)) qdfr qk1r qk2r),by show (ws++[_]).length+(u-1)=wn;rw [len_snoc];omega⟩
     | exact ⟨mem_snoc kts0 (triS_mk hscl hdyl hmil qshr),by show (ts++[_]).length+(w-1)=tn;rw [len_snoc];omega⟩
  ·
   try simp at hc1
   replace F:=F.add hc1
   refine W.exit ?_
   refine hK1 _ ?_
   clear hK2 K2 hK1 K1
   refine W.seqk fun K5 hK5=>?_
   refine W.seqR ?_
   refine oN 2 ?_
   refine oC [(10000,10000)] ?_
   refine CallT.mkE (From_E g 1 q (by omega) (by omega) (by omega)) (fun z73 hz73=>⟨(by simp [hr,hd,hp1,hp5,hq1,hq3,hdn,hdn8,hmq,hm1,hlen,hc1]), ?_⟩)
   obtain ⟨sn,qsn⟩:∃sn:Nat,z73.1=(sn:Int):=⟨z73.1.toNat,by omega⟩
   have hsn:=qsn
   have hsn1:1≤sn∧sn≤q:=by omega
   have hmsl:ms.length=m:=by omega
   have hosl:os.length=m:=by have:=kms.1;omega
   replace F:=F.add hsn |>.add hsn1 |>.add hmsl |>.add hosl
   refine WOps.norm (by simp [hr,hd,hp1,hp5,hq1,hq3,hdn,hdn8,hmq,hm1,hlen,hc1,hsn,hsn1,hmsl,hosl];rfl) ?_
   refine oN 1 ?_
   refine oK [0,3,10,11,13,14,17] ?_
   refine W.block ?_
   refine sno 104 0 2 9002 95 4 ?_
   refine sno 112 0 1 9003 30 1 ?_
   refine lpa (α:=List Scl×List (List Int)×Int×Nat) [0,3,10,11,13,14] [18,80,81,84,85,86,89,90,91,96,97,112,114,115,119,120,124,125] [104,112,9002,9003,10000] (fun x=>[(17,I x.2.2.2)]) (fun x=>[(104,.row false 27 5 [.agg [.own 9000 0 m,.val (.slice none 0 0),.own 9002 0 x.1.length,.val (.slice none 0 0),I dn]]),(112,.row false 37 2 [.agg [.own 9001 0 os.length,.own 9003 0 x.2.1.length]]),(9002,.row true 95 4 (x.1.map C4)),(9003,.row true 30 1 (x.2.1.map ints)),(10000,die x.2.2.1)]) (fun x=>Side (SclF dn) x.1 x.2.1∧x.1.length+x.2.2.2=sn) (fun x=>x.2.2.2) ([],[],z73.2,sn) ?_ ?_
   ·
    first
    | exact ⟨Side.nil,by show 0+m=m;omega⟩
    | exact ⟨Side.nil,by show 0+sn=sn;omega⟩
    | exact ⟨fun w hw=>(by cases hw),by show 0+wn=wn;omega⟩
    | exact ⟨fun w hw=>(by cases hw),by show 0+tn=tn;omega⟩
    | exact ⟨RowF.one (truV_range z91.2 hz86.2.1),Nat.zero_le _⟩
   ·
    intro ⟨ss,es,g8,j⟩ hI1
    simp only [List.cons_append,List.nil_append]
    try dsimp only at hI1
    obtain ⟨kss,hlen2⟩:=hI1
    replace F:=F.add hlen2
    refine W.seqk fun K6 hK6=>?_
    refine rK [0,3,10,11,13,14,17,75] ?_
    refine it (fun hc4=>?_) (fun hc4=>?_)
    ·
     try simp at hc4
     replace F:=F.add hc4
     refine W.skip ?_
     refine hK6 _ ?_
     clear hK6 K6
     refine W.seqk fun K7 hK7=>?_
     refine W.block ?_
     refine W.seqR ?_
     refine oN 3 ?_
     refine oC [(10000,10000)] ?_
     refine CallT.mkE (One_E g8 [2,9] (by simp) (by simp)) (fun z81 hz81=>⟨(by simp [hr,hd,hp1,hp5,hq1,hq3,hdn,hdn8,hmq,hm1,hlen,hc1,hsn,hsn1,hmsl,hosl,hlen2,hc4]), ?_⟩)
     have qz81:z81.1=2∨z81.1=9:=by simpa using hz81
     have hz811:2≤z81.1∧z81.1≤9:=by omega
     replace F:=F.add hz811
     refine WOps.norm (by simp [hr,hd,hp1,hp5,hq1,hq3,hdn,hdn8,hmq,hm1,hlen,hc1,hsn,hsn1,hmsl,hosl,hlen2,hc4,hz811];rfl) ?_
     refine oNw 3 ?_
     refine oC [(10000,10000)] ?_
     refine CallT.mkE (One_E z81.2 [2,9] (by simp) (by simp)) (fun z85 hz85=>⟨(by simp [hr,hd,hp1,hp5,hq1,hq3,hdn,hdn8,hmq,hm1,hlen,hc1,hsn,hsn1,hmsl,hosl,hlen2,hc4,hz811]), ?_⟩)
     have qz85:z85.1=2∨z85.1=9:=by simpa using hz85
     have hz851:2≤z85.1∧z85.1≤9:=by omega
     replace F:=F.add hz851
     refine WOps.norm (by simp [hr,hd,hp1,hp5,hq1,hq3,hdn,hdn8,hmq,hm1,hlen,hc1,hsn,hsn1,hmsl,hosl,hlen2,hc4,hz811,hz851];rfl) ?_
     refine oC [(10000,10000)] ?_
     refine CallT.mkE (Span_E z85.2 (-z81.1) z85.1 (by omega) (by omega) (by omega)) (fun z86 hz86=>⟨(by simp [hr,hd,hp1,hp5,hq1,hq3,hdn,hdn8,hmq,hm1,hlen,hc1,hsn,hsn1,hmsl,hosl,hlen2,hc4,hz811,hz851]), ?_⟩)
     refine WOps.norm (by simp [hr,hd,hp1,hp5,hq1,hq3,hdn,hdn8,hmq,hm1,hlen,hc1,hsn,hsn1,hmsl,hosl,hlen2,hc4,hz811,hz851];rfl) ?_
     refine oN 3 ?_
     refine oC [(10000,10000)] ?_
     refine CallT.mkE (One_E z86.2 [0,3] (by simp) (by simp)) (fun z90 hz90=>⟨(by simp [hr,hd,hp1,hp5,hq1,hq3,hdn,hdn8,hmq,hm1,hlen,hc1,hsn,hsn1,hmsl,hosl,hlen2,hc4,hz811,hz851]), ?_⟩)
     have qz90:z90.1=0∨z90.1=3:=by simpa using hz90
     have hz901:0≤z90.1∧z90.1≤3:=by omega
     replace F:=F.add hz901
     refine WOps.norm (by simp [hr,hd,hp1,hp5,hq1,hq3,hdn,hdn8,hmq,hm1,hlen,hc1,hsn,hsn1,hmsl,hosl,hlen2,hc4,hz811,hz851,hz901];rfl) ?_
     refine oC [(10000,10000)] ?_
     refine CallT.mkE (Span_E z90.2 (-2) z90.1 (by omega) (by omega) (by omega)) (fun z91 hz91=>⟨(by simp [hr,hd,hp1,hp5,hq1,hq3,hdn,hdn8,hmq,hm1,hlen,hc1,hsn,hsn1,hmsl,hosl,hlen2,hc4,hz811,hz851,hz901]), ?_⟩)
     refine WOps.norm (by simp [hr,hd,hp1,hp5,hq1,hq3,hdn,hdn8,hmq,hm1,hlen,hc1,hsn,hsn1,hmsl,hosl,hlen2,hc4,hz811,hz851,hz901];rfl) ?_
     refine oN 3 ?_
     refine oK [0,3,10,11,13,14,17,18] ?_
     have qss:SclS ⟨z86.1,z91.1⟩:=⟨⟨by dsimp only;omega,hz86.2.1,by dsimp only;omega⟩,hz91.1,hz91.2.1,by dsimp only;omega⟩
     refine W.seqR ?_
     refine oN 3 ?_
     refine oC [(10000,10000)] ?_
     refine ct (True_ok z91.2 z86.1 (by omega) (by omega) (by omega)) ?_
     refine oN 2 ?_
     refine oK [0,3,10,11,13,14,17,18,19] ?_
     refine W.seqk fun K8 hK8=>?_
     refine rK [0,3,10,11,13,14,17,18,19,20] ?_
     refine W.block ?_
     refine lpa (α:=List Int×Int×Nat) [0,3,10,11,13,14,17,18] [112,114,115] [776,10000] (fun x=>[(20,I x.2.2),(19,.own 776 0 x.1.length)]) (fun x=>[(776,.row true 3 1 (x.1.map I)),(10000,die x.2.1)]) (fun x=>RowF ⟨z86.1,z91.1⟩ x.2.2 x.1∧x.2.2≤dn) (fun x=>dn-x.2.2) ([truV z91.2 z86.1],truF z91.2 z86.1,0) ?_ ?_
     ·
      first
      | exact ⟨Side.nil,by show 0+m=m;omega⟩
      | exact ⟨Side.nil,by show 0+sn=sn;omega⟩
      | exact ⟨fun w hw=>(by cases hw),by show 0+wn=wn;omega⟩
      | exact ⟨fun w hw=>(by cases hw),by show 0+tn=tn;omega⟩
      | exact ⟨RowF.one (truV_range z91.2 hz86.2.1),Nat.zero_le _⟩
     ·
      intro ⟨l,gl,e⟩ hI2
      simp only [List.cons_append,List.nil_append]
      try dsimp only at hI2
      obtain ⟨kl,hed⟩:=hI2
      replace F:=F.add hed
      refine W.seqk fun K9 hK9=>?_
      refine rK [0,3,10,11,13,14,17,18,19,20,101] ?_
      refine it (fun hc5=>?_) (fun hc5=>?_)
      ·
       try simp at hc5
       replace F:=F.add hc5
       refine W.skip ?_
       refine hK9 _ ?_
       clear hK9 K9
       refine W.seqk fun K10 hK10=>?_
       refine W.block ?_
       have hel:l.length=e+1:=kl.len
       have hel1:e<l.length:=by omega
       have hee:(e:Int)<(e:Int)+1:=by omega
       have qbd:=RowF.bd qss kl e (Nat.le_refl _)
       obtain ⟨c,qc⟩:∃c,l[e]=c:=⟨_,rfl⟩
       have hlc:=qc
       have qnc:nth l e=c:=by rw [nth_get hel1];exact qc
       have hnc:=qnc
       rw [qnc] at qbd
       have qtr:=truV_range gl (x:=z91.1) (by omega)
       obtain ⟨dr,qdr⟩:∃dr,truV gl z91.1=dr:=⟨_,rfl⟩
       have hdr:=qdr
       rw [qdr] at qtr
       have hwr:IntKind.i64.wrap (c+dr)=c+dr:=wrap_i64 (by omega) (by omega)
       replace F:=F.add hel |>.add hel1 |>.add hee |>.add hlc |>.add hnc |>.add hdr |>.add hwr
       refine wDe 11 [(8,[10000])] [[],[],[],[2,1],[1,2,3],[],[],[6],[6,7,5],[5,7,6,8,3,2,1,4],[4,1,2,3,8,6,7,5,9],[9,5,7,6,8,3,2,1,4,10,0],[0,10,4,1,2,3,8,6,7,5,9,11]] ?_
       refine dB [([105,106,107,108,109,110,111,112,113,114],[],[10000]),([104,106,109,110,111,112],[false],[10000]),([104,105,109,110,111,112],[false,false],[10000]),([104,109,110,111,112],[false,true,true],[10000]),([104,109,110,111,112],[false,true,true,true],[10000]),([104,105,106,107,108,110,111],[false,false,false,false,false],[]),([104,105,106,107,108,109],[false,false,false,false,false,false],[]),([104,105,106,107,108,109],[false,false,false,false,false,false,true],[])] 3 8 ?_
       refine dC [104,105,106,107,108] [false,false,false,false,false,true,true,true] [] [(10000,10000)] ?_
       refine cd (True_ok gl z91.1 (by omega) (by omega) (by omega)) ?_
       refine dB [([104],[false,true,true,true,true,true,true,true,true],[]),([104],[false,true,true,true,true,true,true,true,true,true],[])] 0 11 ?_
       refine dD ?_
       refine oNw 2 ?_
       refine WOps.endK ?_
       refine hK10 _ ?_
       clear hK10 K10
       refine rEw ?_
       refine ⟨(l++[nth l e+truV gl z91.1],truF gl z91.1,e+1),lf0, ?_,v0⟩
       ·
        first
        | exact ⟨kms.snoc ⟨qnmr,⟨by dsimp only;omega,by dsimp only;omega,by dsimp only;omega⟩,truV_range g6 (x:=⟨0,0⟩) (by decide)⟩,by show (ms++[_]).length+(i-1)=m;rw [len_snoc];omega⟩
        | exact ⟨kms.snoc ⟨qnmr,⟨by dsimp only;omega,hz49.2.1,by dsimp only;omega⟩,truV_range g6 hz49.2.1⟩,by show (ms++[_]).length+(i-1)=m;rw [len_snoc];omega⟩
        | exact ⟨kl.snoc (truV_range gl hz91.2.1),by show e+1≤dn;omega⟩
        | exact ⟨kss.snoc ⟨qss,hed2▸kl⟩,by show (ss++[_]).length+(j-1)=sn;rw [len_snoc];omega⟩
        | exact ⟨mem_snoc kws (weiS_mk hal hcl (fun h=>qbr.2 (qc.trans h)) qdfr qk1r qk2r),by show (ws++[_]).length+(u-1)=wn;rw [len_snoc];omega⟩
        | exact ⟨mem_snoc kts0 (triS_mk hscl hdyl hmil qshr),by show (ts++[_]).length+(w-1)=tn;rw [len_snoc];omega⟩
      ·
       try simp at hc5
       replace F:=F.add hc5
       refine W.exit ?_
       refine hK8 _ ?_
       clear hK9 K9 hK8 K8
       have hed2:e=dn:=by omega
       have hsl8:ss.length≤8:=by omega
       have hel8:es.length≤8:=by have:=kss.1;omega
       replace F:=F.add hed2 |>.add hsl8 |>.add hel8
       refine W.weaken (Le.freeze (id:=776) (by simp [hr,hd,hp1,hp5,hq1,hq3,hdn,hdn8,hmq,hm1,hlen,hc1,hsn,hsn1,hmsl,hosl,hlen2,hc4,hz811,hz851,hz901,hed,hc5,hed2,hsl8,hel8];rfl)) ?_
       refine wDe 11 [(4,[9002]),(9,[9003])] [[],[0],[],[2],[2,3,0,1],[],[5],[],[7],[1,0,3,2,4,7,8,5,6],[4,3,2,1,0],[6,5,8,7,9,0,1,2,3,4,10],[11,10,9,8,7,6,5,4,3,2,1,0],[0,1,2,3,4,5,6,7,8,9,10,11,12]] ?_
       refine dB [([118,119,121,122,123,124],[],[]),([118,119,121,122,123,124],[true],[]),([116,117,121,122,123,124],[false,false],[]),([116,117,121,122,123,124],[false,false,true],[])] 7 4 ?_
       refine dAw [121,122,123,124] [true,true,true,true] [] [9002] ?_
       refine dB [([116,117,118,119,120,123,124,126],[false,false,false,false,false],[9002]),([116,117,118,119,120,123,124,126],[false,false,false,false,false,true],[9002]),([116,117,118,119,120,121,122,126],[false,false,false,false,false,false,false],[9002]),([116,117,118,119,120,121,122,126],[false,false,false,false,false,false,false,true],[9002])] 2 9 ?_
       refine dAw [126] [true,true,true,true,true,true,true,true,true] [] [9003] ?_
       refine dB [([121,122,123,124,125],[true,true,true,true,true,false,false,false,false,false],[9003])] 0 11 ?_
       refine dD ?_
       refine WOps.le (Le.exch (x:=960) (y:=9002) (by simp [hr,hd,hp1,hp5,hq1,hq3,hdn,hdn8,hmq,hm1,hlen,hc1,hsn,hsn1,hmsl,hosl,hlen2,hc4,hz811,hz851,hz901,hed,hc5,hed2,hsl8,hel8];rfl)) rfl rfl ?_
       refine WOps.le (Le.exch (x:=1000) (y:=9003) (by simp [hr,hd,hp1,hp5,hq1,hq3,hdn,hdn8,hmq,hm1,hlen,hc1,hsn,hsn1,hmsl,hosl,hlen2,hc4,hz811,hz851,hz901,hed,hc5,hed2,hsl8,hel8];rfl)) rfl rfl ?_
       refine oN 3 ?_
       refine WOps.endK ?_
       refine hK7 _ ?_
       clear hK7 K7
       have hjm:((j:Nat):Int)-1=((j-1:Nat):Int):=by omega
       replace F:=F.add hjm
       refine rEw ?_
       refine ⟨(ss++[⟨z86.1,z91.1⟩],es++[l],gl,j-1),lf0, ?_,v0⟩
       ·
        first
        | exact ⟨kms.snoc ⟨qnmr,⟨by dsimp only;omega,by dsimp only;omega,by dsimp only;omega⟩,truV_range g6 (x:=⟨0,0⟩) (by decide)⟩,by show (ms++[_]).length+(i-1)=m;rw [len_snoc];omega⟩
        | exact ⟨kms.snoc ⟨qnmr,⟨by dsimp only;omega,hz49.2.1,by dsimp only;omega⟩,truV_range g6 hz49.2.1⟩,by show (ms++[_]).length+(i-1)=m;rw [len_snoc];omega⟩
        | exact ⟨kl.snoc (truV_range gl hz91.2.1),by show e+1≤dn;omega⟩
        | exact ⟨kss.snoc ⟨qss,hed2▸kl⟩,by show (ss++[_]).length+(j-1)=sn;rw [len_snoc];omega⟩
        | exact ⟨mem_snoc kws (weiS_mk hal hcl (fun h=>qbr.2 (qc.trans h)) qdfr qk1r qk2r),by show (ws++[_]).length+(u-1)=wn;rw [len_snoc];omega⟩
        | exact ⟨mem_snoc kts0 (triS_mk hscl hdyl hmil qshr),by show (ts++[_]).length+(w-1)=tn;rw [len_snoc];omega⟩
    ·
     try simp at hc4
     replace F:=F.add hc4
     refine W.exit ?_
     refine hK5 _ ?_
     clear hK6 K6 hK5 K5
     refine W.seqk fun K11 hK11=>?_
     refine W.seqR ?_
     refine oNw 3 ?_
     refine oC [(10000,10000)] ?_
     refine CallT.mkE (Cast_E g8 ((r:Int)+1) (by omega) (by omega)) (fun z131 hz131=>⟨(by simp [hr,hd,hp1,hp5,hq1,hq3,hdn,hdn8,hmq,hm1,hlen,hc1,hsn,hsn1,hmsl,hosl,hlen2,hc4]), ?_⟩)
     obtain ⟨wn,qwn⟩:∃wn:Nat,z131.1=(wn:Int):=⟨z131.1.toNat,by omega⟩
     have hwn:=qwn
     have hwnr:wn≤r:=by omega
     have hssl:ss.length=sn:=by omega
     have hesl:es.length=sn:=by have:=kss.1;omega
     replace F:=F.add hwn |>.add hwnr |>.add hssl |>.add hesl
     refine WOps.norm (by simp [hr,hd,hp1,hp5,hq1,hq3,hdn,hdn8,hmq,hm1,hlen,hc1,hsn,hsn1,hmsl,hosl,hlen2,hc4,hwn,hwnr,hssl,hesl];rfl) ?_
     refine oN 1 ?_
     refine oK [0,3,10,11,13,14,21] ?_
     refine W.block ?_
     refine sno 104 0 1 9004 85 4 ?_
     refine lpa (α:=List Wei×Int×Nat) [0,3,10,11,13,14] [137,145,146,151,153,157,158,176,180,184,185] [104,9004,10000] (fun x=>[(21,I x.2.2)]) (fun x=>[(104,.row false 27 5 [.agg [.own 9000 0 m,.own 9004 0 x.1.length,.own 9002 0 sn,.val (.slice none 0 0),I dn]]),(9004,.row true 85 4 (x.1.map W4)),(10000,die x.2.1)]) (fun x=>(∀w∈x.1,WeiS m w)∧x.1.length+x.2.2=wn) (fun x=>x.2.2) ([],z131.2,wn) ?_ ?_
     ·
      first
      | exact ⟨Side.nil,by show 0+m=m;omega⟩
      | exact ⟨Side.nil,by show 0+sn=sn;omega⟩
      | exact ⟨fun w hw=>(by cases hw),by show 0+wn=wn;omega⟩
      | exact ⟨fun w hw=>(by cases hw),by show 0+tn=tn;omega⟩
      | exact ⟨RowF.one (truV_range z91.2 hz86.2.1),Nat.zero_le _⟩
     ·
      intro ⟨ws,ga,u⟩ hI3
      simp only [List.cons_append,List.nil_append]
      try dsimp only at hI3
      obtain ⟨kws,hlen3⟩:=hI3
      replace F:=F.add hlen3
      refine W.seqk fun K12 hK12=>?_
      refine W.seqR ?_
      refine oN 3 ?_
      refine gX ?_
      refine gX ?_
      refine gX ?_
      refine gX ?_
      refine oN 1 ?_
      refine oK [0,3,10,11,13,14,21,139] ?_
      refine it (fun hc6=>?_) (fun hc6=>?_)
      ·
       try simp at hc6
       replace F:=F.add hc6
       refine W.skip ?_
       refine hK12 _ ?_
       clear hK12 K12
       refine W.seqk fun K13 hK13=>?_
       refine W.block ?_
       have hm2:1<m:=by omega
       replace F:=F.add hm2
       refine W.seqR ?_
       refine oN 4 ?_
       refine oC [(10000,10000)] ?_
       refine CallT.mkE (Cast_E ga (m:Int) (by omega) (by omega)) (fun z146 hz146=>⟨(by simp [hr,hd,hp1,hp5,hq1,hq3,hdn,hdn8,hmq,hm1,hlen,hc1,hsn,hsn1,hmsl,hosl,hlen2,hc4,hwn,hwnr,hssl,hesl,hlen3,hc6,hm2]), ?_⟩)
       obtain ⟨a,qa⟩:∃a:Nat,z146.1=(a:Int):=⟨z146.1.toNat,by omega⟩
       have haq:=qa
       have hal:a<m:=by omega
       have hali:(a:Int)<m:=by omega
       replace F:=F.add haq |>.add hal |>.add hali
       refine WOps.norm (by simp [hr,hd,hp1,hp5,hq1,hq3,hdn,hdn8,hmq,hm1,hlen,hc1,hsn,hsn1,hmsl,hosl,hlen2,hc4,hwn,hwnr,hssl,hesl,hlen3,hc6,hm2,haq,hal,hali];rfl) ?_
       refine oN 1 ?_
       refine oK [0,3,10,11,13,14,21,22] ?_
       obtain ⟨v,qv⟩:∃v,fromV z146.2 1 ((m:Int)-1)=v:=⟨_,rfl⟩
       have hv1:=qv
       have qvr:1≤v∧v≤(m:Int)-1:=by rw [←qv];exact fromV_range _ (by omega)
       obtain ⟨gb,qgb⟩:∃x,fromF z146.2 1 ((m:Int)-1)=x:=⟨_,rfl⟩
       have hgb:=qgb
       have hwm:IntKind.i64.wrap ((m:Int)-1)=(m:Int)-1:=wrap_i64 (by omega) (by omega)
       have hwa:IntKind.i64.wrap ((a:Int)+v)=(a:Int)+v:=wrap_i64 (by omega) (by omega)
       have qbr:=bring_ne (a:=a) (r:=v) (n:=m) (by omega) qvr
       obtain ⟨c,qc⟩:∃c:Nat,bring ((a:Int)+v) m=(c:Int):=⟨(bring ((a:Int)+v) m).toNat,by omega⟩
       have hbc:=qc
       have hcl:c<m:=by omega
       have hcli:(c:Int)<m:=by omega
       replace F:=F.add hv1 |>.add hgb |>.add hwm |>.add hwa |>.add hbc |>.add hcl |>.add hcli
       refine wD 11 [(6,[10000])] [[],[],[],[2],[2,3],[3,2,4],[4,2,3,5,1],[1,5,3,2,4,6,0],[],[8],[8,9],[9,8,10,0,6,4,2,3,5,1,7],[7,1,5,3,2,4,6,0,10,8,9,11]] ?_
       refine dB [([148,149,150,151,152,153,155,156,157],[],[10000]),([147,149,150,151,152,155,156,157],[false],[]),([147,148,155,156,157],[false,false],[]),([147,148,155,156,157],[false,false,true],[]),([147,148,155,156,157],[false,false,true,true],[]),([147,148,155,156,157],[false,false,true,true,true],[])] 5 6 ?_
       refine dC [147,155,156,157] [false,true,true,true,true,true] [] [(10000,10000)] ?_
       refine cd (From_ok z146.2 1 ((m:Int)-1) (by omega) (by omega) (by omega) (by omega)) ?_
       refine dB [([155,156,157],[true,true,true,true,true,true,true],[]),([147,148,149,150,151,152,153,154],[false,false,false,false,false,false,false,false],[10000]),([147,148,149,150,151,152,153,154],[false,false,false,false,false,false,false,false,true],[10000]),([147,148,149,150,151,152,153,154],[false,false,false,false,false,false,false,false,true,true],[10000])] 0 11 ?_
       refine dD ?_
       refine oC [] ?_
       refine ct (Bring_ok ((a:Int)+v) m (by omega)) ?_
       refine oN 1 ?_
       refine oK [0,3,10,11,13,14,21,22,23] ?_
       have hao:a<os.length:=by omega
       have hco:c<os.length:=by omega
       have ham:a<ms.length:=by omega
       have hcm:c<ms.length:=by omega
       obtain ⟨x1,qx1⟩:∃x,os[a]=x:=⟨_,rfl⟩
       obtain ⟨y1,qy1⟩:∃x,os[c]=x:=⟨_,rfl⟩
       have hx1:=qx1
       have hy1:=qy1
       have qka:=kms.2 a (by omega)
       have qkc:=kms.2 c (by omega)
       rw [nth_get hao,qx1] at qka
       rw [nth_get hco,qy1] at qkc
       have qr1 : -20≤x1∧x1≤20:=by have h1:=qka.off;have h2:=qka.at_;omega
       have qr2 : -20≤y1∧y1≤20:=by have h1:=qkc.off;have h2:=qkc.at_;omega
       obtain ⟨df,qdf⟩:∃df,x1-y1=df:=⟨_,rfl⟩
       have hdf:=qdf
       have qdfr : -40≤df∧df≤40:=by omega
       replace F:=F.add hao |>.add hco |>.add ham |>.add hcm |>.add hx1 |>.add hy1 |>.add hdf
       refine wD 10 [] [[],[0],[],[2,0,1],[1,0,2,3],[],[5],[],[7,5,6],[6,5,7,8],[8,7,5,6,9,3,2,0,1,4],[4,1,0,2,3,9,6,5,7,8,10]] ?_
       refine dB [([161,164,165,166,167,168],[],[]),([161,164,165,166,167,168],[true],[]),([159,160,164,165,166,167,168],[false,false],[]),([164,165,166,167,168],[true,true,true],[]),([164,165,166,167,168],[true,true,true,true],[]),([159,160,161,162,163,166],[false,false,false,false,false],[]),([159,160,161,162,163,166],[false,false,false,false,false,true],[]),([159,160,161,162,163,164,165],[false,false,false,false,false,false,false],[]),([159,160,161,162,163],[false,false,false,false,false,true,true,true],[]),([159,160,161,162,163],[false,false,false,false,false,true,true,true,true],[])] 0 10 ?_
       refine dD ?_
       refine oNw 2 ?_
       refine oK [0,3,10,11,13,14,21,22,23,24] ?_
       obtain ⟨k1,qk1⟩:∃k,castV gb 4=k:=⟨_,rfl⟩
       obtain ⟨gd,qgd⟩:∃x,castF gb 4=x:=⟨_,rfl⟩
       obtain ⟨k2,qk2⟩:∃k,castV gd 4=k:=⟨_,rfl⟩
       obtain ⟨ge,qge⟩:∃x,castF gd 4=x:=⟨_,rfl⟩
       have hk1:=qk1
       have hk2:=qk2
       have hgd:=qgd
       have hge:=qge
       have qk1r:0≤k1∧k1≤3:=by rw [←qk1];exact ⟨castV_lo _ _,by have:=castV_le gb 4 (by omega);omega⟩
       have qk2r:0≤k2∧k2≤3:=by rw [←qk2];exact ⟨castV_lo _ _,by have:=castV_le gd 4 (by omega);omega⟩
       have hwsl:ws.length≤8:=by omega
       replace F:=F.add hk1 |>.add hk2 |>.add hgd |>.add hge |>.add hwsl
       refine wDe 15 [(6,[10000]),(10,[10000])] [[],[0],[],[],[],[],[5],[5,6,4],[],[],[5,6,9],[9,6,5,10,8],[8,10,9,11,4,6,5,7],[7,5,6,4,11,9,10,8,12,3,2],[2,3,12,8,10,9,11,4,6,5,7,13],[13,7,5,6,4,11,9,10,8,12,3,2,14,0,1],[15,14,13,12,11,10,9,8,7,6,5,4,3,2,1,0],[0,1,2,3,4,5,6,7,8,9,10,11,12,13,14,15,16]] ?_
       refine dB [([172,173,174,175,176,177,178,179,180,181,182,183,184],[],[10000,10000]),([172,173,174,175,176,177,178,179,180,181,182,183,184],[true],[10000,10000]),([170,171,173,174,175,176,177,178,179,180,181,182],[false,false],[10000,10000]),([170,171,172,174,175,176,177,178,179,180,181,182],[false,false,false],[10000,10000]),([170,171,172,173,175,176,178,179,180,181],[false,false,false,false],[10000,10000]),([170,171,172,173,174,178,179],[false,false,false,false,false],[])] 9 6 ?_
       refine dC [170,171,172,173,174,178,179] [false,false,false,false,false,true] [] [(10000,10000)] ?_
       refine cd (Cast_ok gb 4 (by omega)) ?_
       refine dBw [([170,171,172,173,178,179,180,181],[false,false,false,false,true,true,true],[10000]),([170,171,172,173,174,175,176,177,179,180],[false,false,false,false,false,false,false,false],[10000,10000]),([170,171,172,173,174,175,176,177,178],[false,false,false,false,false,false,false,false,false],[10000])] 5 10 ?_
       refine dC [170,171,172,173,174,177,178] [false,false,false,false,false,true,true,false,false,true] [] [(10000,10000)] ?_
       refine cd (Cast_ok gd 4 (by omega)) ?_
       refine dBw [([170,171,172,173,174,177],[false,false,false,false,false,true,true,false,true,true,true],[]),([170,171,172,173],[false,false,false,false,true,true,true,true,true,true,true,true],[]),([170,171],[false,false,true,true,true,true,true,true,true,true,true,true,true],[]),([170,171],[false,false,true,true,true,true,true,true,true,true,true,true,true,true],[])] 0 15 ?_
       refine dD ?_
       refine oNw 3 ?_
       refine WOps.endK ?_
       refine hK13 _ ?_
       clear hK13 K13
       have hum:((u:Nat):Int)-1=((u-1:Nat):Int):=by omega
       replace F:=F.add hum
       refine rEw ?_
       refine ⟨(ws++[⟨a,c,⟨df-k1,df+k2⟩⟩],ge,u-1),lf0, ?_,v0⟩
       ·
        first
        | exact ⟨kms.snoc ⟨qnmr,⟨by dsimp only;omega,by dsimp only;omega,by dsimp only;omega⟩,truV_range g6 (x:=⟨0,0⟩) (by decide)⟩,by show (ms++[_]).length+(i-1)=m;rw [len_snoc];omega⟩
        | exact ⟨kms.snoc ⟨qnmr,⟨by dsimp only;omega,hz49.2.1,by dsimp only;omega⟩,truV_range g6 hz49.2.1⟩,by show (ms++[_]).length+(i-1)=m;rw [len_snoc];omega⟩
        | exact ⟨kl.snoc (truV_range gl hz91.2.1),by show e+1≤dn;omega⟩
        | exact ⟨kss.snoc ⟨qss,hed2▸kl⟩,by show (ss++[_]).length+(j-1)=sn;rw [len_snoc];omega⟩
        | exact ⟨mem_snoc kws (weiS_mk hal hcl (fun h=>qbr.2 (qc.trans h)) qdfr qk1r qk2r),by show (ws++[_]).length+(u-1)=wn;rw [len_snoc];omega⟩
        | exact ⟨mem_snoc kts0 (triS_mk hscl hdyl hmil qshr),by show (ts++[_]).length+(w-1)=tn;rw [len_snoc];omega⟩
      ·
       try simp at hc6
       replace F:=F.add hc6
       refine W.exit ?_
       refine hK11 _ ?_
       clear hK12 K12 hK11 K11
       refine W.seqk fun K14 hK14=>?_
       refine W.seqR ?_
       refine oNw 3 ?_
       refine oC [(10000,10000)] ?_
       refine CallT.mkE (Cast_E ga ((r:Int)+1) (by omega) (by omega)) (fun z190 hz190=>⟨(by simp [hr,hd,hp1,hp5,hq1,hq3,hdn,hdn8,hmq,hm1,hlen,hc1,hsn,hsn1,hmsl,hosl,hlen2,hc4,hwn,hwnr,hssl,hesl,hlen3,hc6]), ?_⟩)
       obtain ⟨tn,qtn⟩:∃tn:Nat,z190.1=(tn:Int):=⟨z190.1.toNat,by omega⟩
       have htn:=qtn
       have htnr:tn≤r:=by omega
       replace F:=F.add htn |>.add htnr
       refine WOps.norm (by simp [hr,hd,hp1,hp5,hq1,hq3,hdn,hdn8,hmq,hm1,hlen,hc1,hsn,hsn1,hmsl,hosl,hlen2,hc4,hwn,hwnr,hssl,hesl,hlen3,hc6,htn,htnr];rfl) ?_
       refine oN 1 ?_
       refine oK [0,10,11,13,14,25] ?_
       refine W.block ?_
       refine sno 104 0 3 9005 29 4 ?_
       refine lpa (α:=List Tri×Int×Nat) [0,10,11,13,14] [26,198,199,204,208,209,236,241,242] [104,9005,10000] (fun x=>[(25,I x.2.2)]) (fun x=>[(104,.row false 27 5 [.agg [.own 9000 0 m,.own 9004 0 ws.length,.own 9002 0 sn,.own 9005 0 x.1.length,I dn]]),(9005,.row true 29 4 (x.1.map R4)),(10000,die x.2.1)]) (fun x=>(∀t∈x.1,TriS sn m dn t∧t.sh≤1900)∧x.1.length+x.2.2=tn) (fun x=>x.2.2) ([],z190.2,tn) ?_ ?_
       ·
        first
        | exact ⟨Side.nil,by show 0+m=m;omega⟩
        | exact ⟨Side.nil,by show 0+sn=sn;omega⟩
        | exact ⟨fun w hw=>(by cases hw),by show 0+wn=wn;omega⟩
        | exact ⟨fun w hw=>(by cases hw),by show 0+tn=tn;omega⟩
        | exact ⟨RowF.one (truV_range z91.2 hz86.2.1),Nat.zero_le _⟩
       ·
        intro ⟨ts,gf,w⟩ hI4
        simp only [List.cons_append,List.nil_append]
        try dsimp only at hI4
        obtain ⟨kts0,hlen4⟩:=hI4
        replace F:=F.add hlen4
        refine W.seqk fun K15 hK15=>?_
        refine rK [0,10,11,13,14,25,192] ?_
        refine it (fun hc7=>?_) (fun hc7=>?_)
        ·
         try simp at hc7
         replace F:=F.add hc7
         refine W.skip ?_
         refine hK15 _ ?_
         clear hK15 K15
         refine W.seqk fun K16 hK16=>?_
         refine W.block ?_
         have qs1:=castV_lo gf (sn:Int)
         have qs2:=castV_le gf (sn:Int) (by omega)
         obtain ⟨sc,qsc⟩:∃c:Nat,castV gf (sn:Int)=(c:Int):=⟨(castV gf (sn:Int)).toNat,by omega⟩
         have hsc:=qsc
         obtain ⟨gh,qgh⟩:∃x,castF gf (sn:Int)=x:=⟨_,rfl⟩
         have hgh:=qgh
         have qs3:=castV_lo gh ((dn:Int)+1)
         have qs4:=castV_le gh ((dn:Int)+1) (by omega)
         obtain ⟨dy,qdy⟩:∃c:Nat,castV gh ((dn:Int)+1)=(c:Int):=⟨(castV gh ((dn:Int)+1)).toNat,by omega⟩
         have hdy:=qdy
         obtain ⟨gi,qgi⟩:∃x,castF gh ((dn:Int)+1)=x:=⟨_,rfl⟩
         have hgi:=qgi
         have qs5:=castV_lo gi (m:Int)
         have qs6:=castV_le gi (m:Int) (by omega)
         obtain ⟨mi,qmi⟩:∃c:Nat,castV gi (m:Int)=(c:Int):=⟨(castV gi (m:Int)).toNat,by omega⟩
         have hmi:=qmi
         obtain ⟨gj,qgj⟩:∃x,castF gi (m:Int)=x:=⟨_,rfl⟩
         have hgj:=qgj
         have hscl:sc<sn:=by omega
         have hdyl:dy≤dn:=by omega
         have hdyi:(dy:Int)<(dn:Int)+1:=by omega
         have hmil:mi<m:=by omega
         replace F:=F.add hsc |>.add hgh |>.add hdy |>.add hgi |>.add hmi |>.add hgj |>.add hscl |>.add hdyl |>.add hdyi |>.add hmil
         refine wD 17 [(4,[10000]),(9,[10000]),(14,[10000])] [[],[],[1],[1,2],[2,1,3,0],[],[],[6],[6,7],[0,3,1,2,4,7,6,8,5],[],[],[11],[11,12],[5,8,6,7,4,2,1,3,0,9,12,11,13,10],[10,13,11,12,14,5,8,6,7,9,0,3,1,2,4],[],[4,2,1,3,0,9,7,6,8,5,14,12,11,13,10,15,16]] ?_
         refine dB [([196,197,198,200,201,202,203,205,206,207,208,26],[],[]),([195,200,201,202,203,205,206,207,208,26],[false],[]),([195,200,201,202,203,205,206,207,208,26],[false,true],[]),([195,200,201,202,203,205,206,207,208,26],[false,true,true],[])] 13 4 ?_
         refine dC [200,201,202,203,205,206,207,208,26] [true,true,true,true] [] [(10000,10000)] ?_
         refine cd (Cast_ok gf (sn:Int) (by omega)) ?_
         refine dBw [([195,196,197,198,199,201,202,203,205,206,207,208,26],[false,false,false,false,false],[10000]),([195,196,197,198,199,200,205,206,207,208,26],[false,false,false,false,false,false],[10000]),([195,196,197,198,199,200,205,206,207,208,26],[false,false,false,false,false,false,true],[10000]),([195,196,197,198,199,200,205,206,207,208,26],[false,false,false,false,false,false,true,true],[10000])] 8 9 ?_
         refine dC [205,206,207,208,26] [true,true,true,true,true,true,true,true,true] [] [(10000,10000)] ?_
         refine cd (Cast_ok gh ((dn:Int)+1) (by omega)) ?_
         refine dB [([195,196,197,198,199,200,201,202,203,204,206,207,208,26],[false,false,false,false,false,false,false,false,false,false],[10000,10000]),([195,196,197,198,199,200,201,202,203,204,205,26],[false,false,false,false,false,false,false,false,false,false,false],[10000,10000]),([195,196,197,198,199,200,201,202,203,204,205,26],[false,false,false,false,false,false,false,false,false,false,false,true],[10000,10000]),([195,196,197,198,199,200,201,202,203,204,205,26],[false,false,false,false,false,false,false,false,false,false,false,true,true],[10000,10000])] 3 14 ?_
         refine dC [26] [true,true,true,true,true,true,true,true,true,true,true,true,true,true] [] [(10000,10000)] ?_
         refine cd (Cast_ok gi (m:Int) (by omega)) ?_
         refine dB [([26],[true,true,true,true,true,true,true,true,true,true,true,true,true,true,true],[]),([195,196,197,198,199,200,201,202,203,204,205,206,207,208,209,210],[false,false,false,false,false,false,false,false,false,false,false,false,false,false,false,false],[10000,10000,10000])] 0 17 ?_
         refine dD ?_
         refine oN 1 ?_
         refine oK [0,10,11,13,14,25,26] ?_
         have hsce:sc<es.length:=by omega
         have hmio:mi<os.length:=by omega
         have hmim:mi<ms.length:=by omega
         have qks:=kss.2 sc (by omega)
         rw [nth_get hsce] at qks
         have qrl:es[sc].length=dn+1:=qks.row.len
         have hdyr:dy<es[sc].length:=by omega
         have qbd:=RowF.bd qks.ok qks.row dy hdyl
         rw [nth_get hdyr] at qbd
         have qkm:=kms.2 mi (by omega)
         rw [nth_get hmio,nth_get hmim] at qkm
         obtain ⟨e1,qe1⟩:∃x,es[sc][dy]=x:=⟨_,rfl⟩
         obtain ⟨o1,qo1⟩:∃x,os[mi]=x:=⟨_,rfl⟩
         obtain ⟨n1,qn1⟩:∃x,ms[mi].nom=x:=⟨_,rfl⟩
         have he1:=qe1
         have ho1:=qo1
         have hn1:=qn1
         rw [qe1] at qbd
         have qr1 : -20≤o1∧o1≤20:=by rw [←qo1];have h1:=qkm.off;have h2:=qkm.at_;omega
         have qr2:1≤n1∧n1≤1000:=by rw [←qn1];exact qkm.nom
         have hwr1:IntKind.i64.wrap (n1+o1)=n1+o1:=wrap_i64 (by omega) (by omega)
         have hwr2:IntKind.i64.wrap (n1+o1+e1)=n1+o1+e1:=wrap_i64 (by omega) (by omega)
         obtain ⟨sh,qsh⟩:∃x,(if 0<n1+o1+e1 then n1+o1+e1 else 0)=x:=⟨_,rfl⟩
         have hsh:=qsh
         have qshr:0≤sh∧sh≤1900:=by rw [←qsh];split<;>omega
         have htsl:ts.length≤8:=by omega
         replace F:=F.add hsce |>.add hmio |>.add hmim |>.add hdyr |>.add he1 |>.add ho1 |>.add hn1 |>.add hwr1 |>.add hwr2 |>.add hsh |>.add htsl
         refine wD 24 [] [[],[0],[],[2],[2,3,0,1],[1,0,3,2,4],[4,2,3,0,1,5],[],[7],[],[9],[9,10,7,8],[8,7,10,9,11],[11,9,10,7,8,12,5,1,0,3,2,4,6],[],[14],[],[16],[16,17,14,15],[15,14,17,16,18],[],[20],[20,21,18,16,17,14,15,19],[19,15,14,17,16,18,21,20,22],[22,20,21,18,16,17,14,15,19,23,6,4,2,3,0,1,5,12,8,7,10,9,11,13],[13,11,9,10,7,8,12,5,1,0,3,2,4,6,23,19,15,14,17,16,18,21,20,22,24],[25,24,23,22,21,20,19,18,17,16,15,14,13,12,11,10,9,8,7,6,5,4,3,2,1,0],[0,1,2,3,4,5,6,7,8,9,10,11,12,13,14,15,16,17,18,19,20,21,22,23,24,25,26]] ?_
         refine dB [([213,214,218,219,220,221,222,223,225,226,227,228,229,230,231,232,233,234],[],[]),([213,214,218,219,220,221,222,223,225,226,227,228,229,230,231,232,233,234],[true],[]),([211,212,218,219,220,221,222,223,225,226,227,228,229,230,231,232,233,234],[false,false],[]),([211,212,218,219,220,221,222,223,225,226,227,228,229,230,231,232,233,234],[false,false,true],[]),([218,219,220,221,222,223,225,226,227,228,229,230,231,232,233,234],[true,true,true,true],[]),([218,219,220,221,222,223,225,226,227,228,229,230,231,232,233,234],[true,true,true,true,true],[]),([218,219,220,221,222,223,225,226,227,228,229,230,231,232,233,234],[true,true,true,true,true,true],[]),([211,212,213,214,215,216,217,220,221,225,226,227,228,229,230,231,232,233,234],[false,false,false,false,false,false,false],[]),([211,212,213,214,215,216,217,220,221,225,226,227,228,229,230,231,232,233,234],[false,false,false,false,false,false,false,true],[]),([211,212,213,214,215,216,217,218,219,225,226,227,228,229,230,231,232,233,234],[false,false,false,false,false,false,false,false,false],[]),([211,212,213,214,215,216,217,218,219,225,226,227,228,229,230,231,232,233,234],[false,false,false,false,false,false,false,false,false,true],[]),([211,212,213,214,215,216,217,225,226,227,228,229,230,231,232,233,234],[false,false,false,false,false,false,false,true,true,true,true],[]),([211,212,213,214,215,216,217,225,226,227,228,229,230,231,232,233,234],[false,false,false,false,false,false,false,true,true,true,true,true],[]),([225,226,227,228,229,230,231,232,233,234],[true,true,true,true,true,true,true,true,true,true,true,true,true],[]),([211,212,213,214,215,216,217,218,219,220,221,222,223,224,227,228,231,232],[false,false,false,false,false,false,false,false,false,false,false,false,false,false],[]),([211,212,213,214,215,216,217,218,219,220,221,222,223,224,227,228,231,232],[false,false,false,false,false,false,false,false,false,false,false,false,false,false,true],[]),([211,212,213,214,215,216,217,218,219,220,221,222,223,224,225,226,231,232],[false,false,false,false,false,false,false,false,false,false,false,false,false,false,false,false],[]),([211,212,213,214,215,216,217,218,219,220,221,222,223,224,225,226,231,232],[false,false,false,false,false,false,false,false,false,false,false,false,false,false,false,false,true],[]),([211,212,213,214,215,216,217,218,219,220,221,222,223,224,231,232],[false,false,false,false,false,false,false,false,false,false,false,false,false,false,true,true,true,true],[]),([211,212,213,214,215,216,217,218,219,220,221,222,223,224,231,232],[false,false,false,false,false,false,false,false,false,false,false,false,false,false,true,true,true,true,true],[]),([211,212,213,214,215,216,217,218,219,220,221,222,223,224,225,226,227,228,229,230],[false,false,false,false,false,false,false,false,false,false,false,false,false,false,false,false,false,false,false,false],[]),([211,212,213,214,215,216,217,218,219,220,221,222,223,224,225,226,227,228,229,230],[false,false,false,false,false,false,false,false,false,false,false,false,false,false,false,false,false,false,false,false,true],[]),([211,212,213,214,215,216,217,218,219,220,221,222,223,224],[false,false,false,false,false,false,false,false,false,false,false,false,false,false,true,true,true,true,true,true,true,true],[]),([211,212,213,214,215,216,217,218,219,220,221,222,223,224],[false,false,false,false,false,false,false,false,false,false,false,false,false,false,true,true,true,true,true,true,true,true,true],[])] 0 24 ?_
         refine dD ?_
         refine oN 4 ?_
         refine oK [0,10,11,13,14,25,26] ?_
         refine rEw ?_
         refine hK16 _ ?_
         clear hK16 K16
         have hwm1:((w:Nat):Int)-1=((w-1:Nat):Int):=by omega
         replace F:=F.add hwm1
         refine rEw ?_
         refine ⟨(ts++[⟨sc,dy,mi,sh⟩],gj,w-1),lf0, ?_,v0⟩
         ·
          first
          | exact ⟨kms.snoc ⟨qnmr,⟨by dsimp only;omega,by dsimp only;omega,by dsimp only;omega⟩,truV_range g6 (x:=⟨0,0⟩) (by decide)⟩,by show (ms++[_]).length+(i-1)=m;rw [len_snoc];omega⟩
          | exact ⟨kms.snoc ⟨qnmr,⟨by dsimp only;omega,hz49.2.1,by dsimp only;omega⟩,truV_range g6 hz49.2.1⟩,by show (ms++[_]).length+(i-1)=m;rw [len_snoc];omega⟩
          | exact ⟨kl.snoc (truV_range gl hz91.2.1),by show e+1≤dn;omega⟩
          | exact ⟨kss.snoc ⟨qss,hed2▸kl⟩,by show (ss++[_]).length+(j-1)=sn;rw [len_snoc];omega⟩
          | exact ⟨mem_snoc kws (weiS_mk hal hcl (fun h=>qbr.2 (qc.trans h)) qdfr qk1r qk2r),by show (ws++[_]).length+(u-1)=wn;rw [len_snoc];omega⟩
          | exact ⟨mem_snoc kts0 (triS_mk hscl hdyl hmil qshr),by show (ts++[_]).length+(w-1)=tn;rw [len_snoc];omega⟩
        ·
         try simp at hc7
         replace F:=F.add hc7
         refine W.exit ?_
         refine hK14 _ ?_
         clear hK15 K15 hK14 K14
         have kts:∀t∈ts,TriS sn m dn t:=fun t ht=>(kts0 t ht).1
         have htk1:List.take m ms=ms:=List.take_of_length_le (by omega)
         have htk2:List.take m os=os:=List.take_of_length_le (by omega)
         have htk3:List.take sn ss=ss:=List.take_of_length_le (by omega)
         have htk4:List.take sn es=es:=List.take_of_length_le (by omega)
         have qfin:=made_fin (d:=d) (p:=p) (q:=q) (r:=r) kms kss kws kts hmsl hssl (by omega) (by omega) (by omega) (by omega)
         obtain ⟨hb0,qhb0⟩:∃x,holdB ⟨ms,ws,ss,ts,dn⟩ ⟨os,es⟩=x:=⟨_,rfl⟩
         have qhold:ACalls Try.prog 63 [.agg [masV ms,weiV ws,sclV ss,triV ts,I dn],.agg [ints os,.imm (es.map ints)]] [] (fun r o=>r=B hb0∧o=[]):=by
           rw [←qhb0];exact hold_made qfin.1.ok qfin.2
         replace F:=F.add htk1 |>.add htk2 |>.add htk3 |>.add htk4
         refine W.seqR ?_
         refine oN 2 ?_
         refine oC [] ?_
         refine ct (qhold) ?_
         refine oN 1 ?_
         refine oK [0,10,11,13,14,27] ?_
         refine W.seqk fun K17 hK17=>?_
         by_cases hts0:0<ts.length
         ·
          replace F:=F.add hts0
          by_cases hon:castV gf 4=0
          ·
           replace F:=F.add hon
           refine W.seqR ?_
           refine oN 5 ?_
           refine gT ?_
           refine gC [(10000,10000)] ?_
           refine ct (Once_ok gf 4 (by omega)) ?_
           refine oN 1 ?_
           refine oK [0,10,11,13,14,27,254] ?_
           refine cT ?_
           have qs1:=castV_lo (castF gf 4) (ts.length:Int)
           have qs2:=castV_le (castF gf 4) (ts.length:Int) (by omega)
           obtain ⟨gk,qgk⟩:∃x,castF gf 4=x:=⟨_,rfl⟩
           have hgk:=qgk
           rw [qgk] at qs1 qs2
           obtain ⟨k,qk⟩:∃c:Nat,castV gk (ts.length:Int)=(c:Int):=⟨(castV gk (ts.length:Int)).toNat,by omega⟩
           have hkq:=qk
           obtain ⟨gl,qgl⟩:∃x,castF gk (ts.length:Int)=x:=⟨_,rfl⟩
           have hgl:=qgl
           have hkl:k<ts.length:=by omega
           have hkli:(k:Int)<ts.length:=by omega
           replace F:=F.add hgk |>.add hkq |>.add hgl |>.add hkl |>.add hkli
           refine wD 7 [(6,[10000])] [[],[0],[],[],[3],[3,4],[4,3,5,2],[2,5,3,4,6,0,1],[1,0,6,4,3,5,2,7]] ?_
           refine dB [([257,258,259,260,261],[],[10000]),([257,258,259,260,261],[true],[10000]),([255,256,258,259,260],[false,false],[]),([255,256,257],[false,false,false],[]),([255,256,257],[false,false,false,true],[]),([255,256,257],[false,false,false,true,true],[])] 1 6 ?_
           refine dC [255,256] [false,false,true,true,true,true] [] [(10000,10000)] ?_
           refine cd (Cast_ok gk (ts.length:Int) (by omega)) ?_
           refine dD ?_
           refine oN 2 ?_
           refine oK [0,10,11,13,14,28] ?_
           obtain ⟨t0,qt0⟩:∃x,ts[k]=x:=⟨_,rfl⟩
           have ht0:=qt0
           have qkt:=kts _ (List.getElem_mem hkl)
           have qkt2:=(kts0 _ (List.getElem_mem hkl)).2
           rw [qt0] at qkt qkt2
           have qkts:=qkt.sh
           obtain ⟨v9,qv9⟩:∃x,fromV gl (-9) 9=x:=⟨_,rfl⟩
           have hv9:=qv9
           have qvr9 : -9≤v9∧v9≤9:=by rw [←qv9];exact fromV_range _ (by omega)
           obtain ⟨gm,qgm⟩:∃x,fromF gl (-9) 9=x:=⟨_,rfl⟩
           have hgm:=qgm
           have hwr9:IntKind.i64.wrap (t0.sh+v9)=t0.sh+v9:=wrap_i64 (by omega) (by omega)
           obtain ⟨s9,qs9⟩:∃x,(if 0<t0.sh+v9 then t0.sh+v9 else 0)=x:=⟨_,rfl⟩
           have hs9:=qs9
           obtain ⟨us,qus⟩:∃us:List Tri,us=ts.set k ⟨t0.sc,t0.day,t0.ms,s9⟩:=⟨_,rfl⟩
           have hus:(ts.map R4).set k (.agg [I t0.sc,I t0.day,I t0.ms,I s9])=us.map R4:=by rw [qus,List.map_set];rfl
           have husl:us.length=ts.length:=by rw [qus,List.length_set]
           have kus:∀t∈us,TriS sn m dn t:=by
             rw [qus]
             intro t ht
             rcases List.mem_or_eq_of_mem_set ht with h | rfl
             · exact kts t h
             · exact ⟨qkt.sc,qkt.day,qkt.ms,by show 0≤s9∧s9≤2000;rw [←qs9];split<;>omega⟩
           replace F:=F.add ht0 |>.add hv9 |>.add hgm |>.add hwr9 |>.add hs9 |>.add hus |>.add husl
           refine wD 9 [(6,[10000])] [[],[],[1],[1,2],[2,1,3],[],[5],[5,6,3,1,2,4],[4,2,1,3,6,5,7],[8,7,6,5,4,3,2,1,0],[0,1,2,3,4,5,6,7,8,9],[9,8,7,6,5,4,3,2,1,0,10]] ?_
           refine dB [([264,265,266,267,268,269,270,271],[],[10000]),([263,268,269],[false],[10000]),([263,268,269],[false,true],[10000]),([263,268,269],[false,true,true],[10000]),([263,268,269],[false,true,true,true],[10000]),([263,264,265,266,267],[false,false,false,false,false],[])] 3 6 ?_
           refine dC [263,264,265,266,267] [false,false,false,false,false,true] [] [(10000,10000)] ?_
           refine cd (From_ok gl (-9) 9 (by omega) (by omega) (by omega) (by omega)) ?_
           refine dB [([263],[false,true,true,true,true,true,true],[]),([263],[false,true,true,true,true,true,true,true],[])] 0 9 ?_
           refine dD ?_
           refine oN 3 ?_
           refine oK [10,11,13,14] ?_
           have qfin2:=made_fin (d:=d) (p:=p) (q:=q) (r:=r) kms kss kws kus hmsl hssl (by omega) (by omega) (by omega) (by omega)
           obtain ⟨hb1,qhb1⟩:∃x,holdB ⟨ms,ws,ss,us,dn⟩ ⟨os,es⟩=x:=⟨_,rfl⟩
           have qhold2:ACalls Try.prog 63 [.agg [masV ms,weiV ws,sclV ss,triV us,I dn],.agg [ints os,.imm (es.map ints)]] [] (fun r o=>r=B hb1∧o=[]):=by
             rw [←qhb1];exact hold_made qfin2.1.ok qfin2.2
           have htk5:List.take ts.length us=us:=List.take_of_length_le (by omega)
           replace F:=F.add htk5
           refine W.region ?_
           refine oN 2 ?_
           refine oC [] ?_
           refine ct (qhold2) ?_
           refine oN 1 ?_
           refine WOps.endK ?_
           refine hK17 _ ?_
           clear hK17 K17
           refine W.weaken (Le.freeze (id:=9001) (by simp [hr,hd,hp1,hp5,hq1,hq3,hdn,hdn8,hmq,hm1,hlen,hc1,hsn,hsn1,hmsl,hosl,hlen2,hc4,hwn,hwnr,hssl,hesl,hlen3,hc6,htn,htnr,hlen4,hc7,htk1,htk2,htk3,htk4,hts0,hon,hgk,hkq,hgl,hkl,hkli,ht0,hv9,hgm,hwr9,hs9,hus,husl,htk5];rfl)) ?_
           refine W.weaken (Le.freeze (id:=9003) (by simp [hr,hd,hp1,hp5,hq1,hq3,hdn,hdn8,hmq,hm1,hlen,hc1,hsn,hsn1,hmsl,hosl,hlen2,hc4,hwn,hwnr,hssl,hesl,hlen3,hc6,htn,htnr,hlen4,hc7,htk1,htk2,htk3,htk4,hts0,hon,hgk,hkq,hgl,hkl,hkli,ht0,hv9,hgm,hwr9,hs9,hus,husl,htk5];rfl)) ?_
           refine W.weaken (Le.freeze (id:=9004) (by simp [hr,hd,hp1,hp5,hq1,hq3,hdn,hdn8,hmq,hm1,hlen,hc1,hsn,hsn1,hmsl,hosl,hlen2,hc4,hwn,hwnr,hssl,hesl,hlen3,hc6,htn,htnr,hlen4,hc7,htk1,htk2,htk3,htk4,hts0,hon,hgk,hkq,hgl,hkl,hkli,ht0,hv9,hgm,hwr9,hs9,hus,husl,htk5];rfl)) ?_
           refine W.weaken (Le.freeze (id:=9005) (by simp [hr,hd,hp1,hp5,hq1,hq3,hdn,hdn8,hmq,hm1,hlen,hc1,hsn,hsn1,hmsl,hosl,hlen2,hc4,hwn,hwnr,hssl,hesl,hlen3,hc6,htn,htnr,hlen4,hc7,htk1,htk2,htk3,htk4,hts0,hon,hgk,hkq,hgl,hkl,hkli,ht0,hv9,hgm,hwr9,hs9,hus,husl,htk5];rfl)) ?_
           refine wD 5 [(3,[80]),(4,[88])] [[],[],[],[0],[0,3,1],[1,3,0,4,2]] ?_
           refine dB [([278,279],[],[]),([277,279],[false],[80]),([277,278],[false,false],[80,88])] 2 3 ?_
           refine WDraw.upd hΓ [80] (viewB_eq (L:=[278,279]) (S:=[true,false,false]) (O:=[]) (by kernel_rfl) (by kernel_rfl) (by simp [hr,hd,hp1,hp5,hq1,hq3,hdn,hdn8,hmq,hm1,hlen,hc1,hsn,hsn1,hmsl,hosl,hlen2,hc4,hwn,hwnr,hssl,hesl,hlen3,hc6,htn,htnr,hlen4,hc7,htk1,htk2,htk3,htk4,hts0,hon,hgk,hkq,hgl,hkl,hkli,ht0,hv9,hgm,hwr9,hs9,hus,husl,htk5];rfl)) (by first | rfl | simp) (by simp [hr,hd,hp1,hp5,hq1,hq3,hdn,hdn8,hmq,hm1,hlen,hc1,hsn,hsn1,hmsl,hosl,hlen2,hc4,hwn,hwnr,hssl,hesl,hlen3,hc6,htn,htnr,hlen4,hc7,htk1,htk2,htk3,htk4,hts0,hon,hgk,hkq,hgl,hkl,hkli,ht0,hv9,hgm,hwr9,hs9,hus,husl,htk5];first | rfl | exact ⟨rfl,rfl⟩) (by simp [hr,hd,hp1,hp5,hq1,hq3,hdn,hdn8,hmq,hm1,hlen,hc1,hsn,hsn1,hmsl,hosl,hlen2,hc4,hwn,hwnr,hssl,hesl,hlen3,hc6,htn,htnr,hlen4,hc7,htk1,htk2,htk3,htk4,hts0,hon,hgk,hkq,hgl,hkl,hkli,ht0,hv9,hgm,hwr9,hs9,hus,husl,htk5];first | done | rfl) (.inr (by simp)) (by simp [hr,hd,hp1,hp5,hq1,hq3,hdn,hdn8,hmq,hm1,hlen,hc1,hsn,hsn1,hmsl,hosl,hlen2,hc4,hwn,hwnr,hssl,hesl,hlen3,hc6,htn,htnr,hlen4,hc7,htk1,htk2,htk3,htk4,hts0,hon,hgk,hkq,hgl,hkl,hkli,ht0,hv9,hgm,hwr9,hs9,hus,husl,htk5];rfl) ?_
           refine WDraw.upd hΓ [88] (viewB_eq (L:=[279]) (S:=[true,true,false,true]) (O:=[]) (by kernel_rfl) (by kernel_rfl) (by simp [hr,hd,hp1,hp5,hq1,hq3,hdn,hdn8,hmq,hm1,hlen,hc1,hsn,hsn1,hmsl,hosl,hlen2,hc4,hwn,hwnr,hssl,hesl,hlen3,hc6,htn,htnr,hlen4,hc7,htk1,htk2,htk3,htk4,hts0,hon,hgk,hkq,hgl,hkl,hkli,ht0,hv9,hgm,hwr9,hs9,hus,husl,htk5];rfl)) (by first | rfl | simp) (by simp [hr,hd,hp1,hp5,hq1,hq3,hdn,hdn8,hmq,hm1,hlen,hc1,hsn,hsn1,hmsl,hosl,hlen2,hc4,hwn,hwnr,hssl,hesl,hlen3,hc6,htn,htnr,hlen4,hc7,htk1,htk2,htk3,htk4,hts0,hon,hgk,hkq,hgl,hkl,hkli,ht0,hv9,hgm,hwr9,hs9,hus,husl,htk5];first | rfl | exact ⟨rfl,rfl⟩) (by simp [hr,hd,hp1,hp5,hq1,hq3,hdn,hdn8,hmq,hm1,hlen,hc1,hsn,hsn1,hmsl,hosl,hlen2,hc4,hwn,hwnr,hssl,hesl,hlen3,hc6,htn,htnr,hlen4,hc7,htk1,htk2,htk3,htk4,hts0,hon,hgk,hkq,hgl,hkl,hkli,ht0,hv9,hgm,hwr9,hs9,hus,husl,htk5];first | done | rfl) (.inr (by simp)) (by simp [hr,hd,hp1,hp5,hq1,hq3,hdn,hdn8,hmq,hm1,hlen,hc1,hsn,hsn1,hmsl,hosl,hlen2,hc4,hwn,hwnr,hssl,hesl,hlen3,hc6,htn,htnr,hlen4,hc7,htk1,htk2,htk3,htk4,hts0,hon,hgk,hkq,hgl,hkl,hkli,ht0,hv9,hgm,hwr9,hs9,hus,husl,htk5];rfl) ?_
           refine dD ?_
           refine WOps.le Le.dedup rfl rfl ?_
           refine WOps.norm (by simp [hr,hd,hp1,hp5,hq1,hq3,hdn,hdn8,hmq,hm1,hlen,hc1,hsn,hsn1,hmsl,hosl,hlen2,hc4,hwn,hwnr,hssl,hesl,hlen3,hc6,htn,htnr,hlen4,hc7,htk1,htk2,htk3,htk4,hts0,hon,hgk,hkq,hgl,hkl,hkli,ht0,hv9,hgm,hwr9,hs9,hus,husl,htk5];rfl) ?_
           refine oN 1 ?_
           refine oK [10,11,12] ?_
           refine W.ret ?_
           refine er false [] [(10000,10000),(20000,9000),(20001,9002)] ?_
           first
           | (refine ⟨((⟨ms,ws,ss,ts,dn⟩,⟨os,es⟩,hb0),_), ?_,rfl,qfin.1,qfin.2,qhb0.symm⟩;show _=AV.tup [.agg [.own 20000 0 ms.length,weiV ws,.own 20001 0 ss.length,triV ts,I dn],facV ⟨os,es⟩,B hb0];rw [hmsl,hssl];first | done | rfl)
           | (refine ⟨((⟨ms,ws,ss,us,dn⟩,⟨os,es⟩,hb1),_), ?_,rfl,qfin2.1,qfin2.2,qhb1.symm⟩;show _=AV.tup [.agg [.own 20000 0 ms.length,weiV ws,.own 20001 0 ss.length,triV us,I dn],facV ⟨os,es⟩,B hb1];rw [hmsl,hssl];first | done | rfl)
           | (obtain rfl:ts=[]:=List.length_eq_zero_iff.1 hts1;refine ⟨((⟨ms,ws,ss,[],dn⟩,⟨os,es⟩,hb0),_), ?_,rfl,qfin.1,qfin.2,qhb0.symm⟩;show _=AV.tup [.agg [.own 20000 0 ms.length,weiV ws,.own 20001 0 ss.length,triV [],I dn],facV ⟨os,es⟩,B hb0];rw [hmsl,hssl];first | done | rfl)
          ·
           replace F:=F.add hon
           refine W.seqR ?_
           refine oN 5 ?_
           refine gT ?_
           refine gC [(10000,10000)] ?_
           refine ct (Once_ok gf 4 (by omega)) ?_
           refine oN 1 ?_
           refine oK [0,10,11,13,14,27,254] ?_
           refine cF ?_
           refine W.skip ?_
           refine hK17 _ ?_
           clear hK17 K17
           refine W.weaken (Le.freeze (id:=9001) (by simp [hr,hd,hp1,hp5,hq1,hq3,hdn,hdn8,hmq,hm1,hlen,hc1,hsn,hsn1,hmsl,hosl,hlen2,hc4,hwn,hwnr,hssl,hesl,hlen3,hc6,htn,htnr,hlen4,hc7,htk1,htk2,htk3,htk4,hts0,hon];rfl)) ?_
           refine W.weaken (Le.freeze (id:=9003) (by simp [hr,hd,hp1,hp5,hq1,hq3,hdn,hdn8,hmq,hm1,hlen,hc1,hsn,hsn1,hmsl,hosl,hlen2,hc4,hwn,hwnr,hssl,hesl,hlen3,hc6,htn,htnr,hlen4,hc7,htk1,htk2,htk3,htk4,hts0,hon];rfl)) ?_
           refine W.weaken (Le.freeze (id:=9004) (by simp [hr,hd,hp1,hp5,hq1,hq3,hdn,hdn8,hmq,hm1,hlen,hc1,hsn,hsn1,hmsl,hosl,hlen2,hc4,hwn,hwnr,hssl,hesl,hlen3,hc6,htn,htnr,hlen4,hc7,htk1,htk2,htk3,htk4,hts0,hon];rfl)) ?_
           refine W.weaken (Le.freeze (id:=9005) (by simp [hr,hd,hp1,hp5,hq1,hq3,hdn,hdn8,hmq,hm1,hlen,hc1,hsn,hsn1,hmsl,hosl,hlen2,hc4,hwn,hwnr,hssl,hesl,hlen3,hc6,htn,htnr,hlen4,hc7,htk1,htk2,htk3,htk4,hts0,hon];rfl)) ?_
           refine wD 5 [(3,[80]),(4,[88])] [[],[],[],[0],[0,3,1],[1,3,0,4,2]] ?_
           refine dB [([278,279],[],[]),([277,279],[false],[80]),([277,278],[false,false],[80,88])] 2 3 ?_
           refine WDraw.upd hΓ [80] (viewB_eq (L:=[278,279]) (S:=[true,false,false]) (O:=[]) (by kernel_rfl) (by kernel_rfl) (by simp [hr,hd,hp1,hp5,hq1,hq3,hdn,hdn8,hmq,hm1,hlen,hc1,hsn,hsn1,hmsl,hosl,hlen2,hc4,hwn,hwnr,hssl,hesl,hlen3,hc6,htn,htnr,hlen4,hc7,htk1,htk2,htk3,htk4,hts0,hon];rfl)) (by first | rfl | simp) (by simp [hr,hd,hp1,hp5,hq1,hq3,hdn,hdn8,hmq,hm1,hlen,hc1,hsn,hsn1,hmsl,hosl,hlen2,hc4,hwn,hwnr,hssl,hesl,hlen3,hc6,htn,htnr,hlen4,hc7,htk1,htk2,htk3,htk4,hts0,hon];first | rfl | exact ⟨rfl,rfl⟩) (by simp [hr,hd,hp1,hp5,hq1,hq3,hdn,hdn8,hmq,hm1,hlen,hc1,hsn,hsn1,hmsl,hosl,hlen2,hc4,hwn,hwnr,hssl,hesl,hlen3,hc6,htn,htnr,hlen4,hc7,htk1,htk2,htk3,htk4,hts0,hon];first | done | rfl) (.inr (by simp)) (by simp [hr,hd,hp1,hp5,hq1,hq3,hdn,hdn8,hmq,hm1,hlen,hc1,hsn,hsn1,hmsl,hosl,hlen2,hc4,hwn,hwnr,hssl,hesl,hlen3,hc6,htn,htnr,hlen4,hc7,htk1,htk2,htk3,htk4,hts0,hon];rfl) ?_
           refine WDraw.upd hΓ [88] (viewB_eq (L:=[279]) (S:=[true,true,false,true]) (O:=[]) (by kernel_rfl) (by kernel_rfl) (by simp [hr,hd,hp1,hp5,hq1,hq3,hdn,hdn8,hmq,hm1,hlen,hc1,hsn,hsn1,hmsl,hosl,hlen2,hc4,hwn,hwnr,hssl,hesl,hlen3,hc6,htn,htnr,hlen4,hc7,htk1,htk2,htk3,htk4,hts0,hon];rfl)) (by first | rfl | simp) (by simp [hr,hd,hp1,hp5,hq1,hq3,hdn,hdn8,hmq,hm1,hlen,hc1,hsn,hsn1,hmsl,hosl,hlen2,hc4,hwn,hwnr,hssl,hesl,hlen3,hc6,htn,htnr,hlen4,hc7,htk1,htk2,htk3,htk4,hts0,hon];first | rfl | exact ⟨rfl,rfl⟩) (by simp [hr,hd,hp1,hp5,hq1,hq3,hdn,hdn8,hmq,hm1,hlen,hc1,hsn,hsn1,hmsl,hosl,hlen2,hc4,hwn,hwnr,hssl,hesl,hlen3,hc6,htn,htnr,hlen4,hc7,htk1,htk2,htk3,htk4,hts0,hon];first | done | rfl) (.inr (by simp)) (by simp [hr,hd,hp1,hp5,hq1,hq3,hdn,hdn8,hmq,hm1,hlen,hc1,hsn,hsn1,hmsl,hosl,hlen2,hc4,hwn,hwnr,hssl,hesl,hlen3,hc6,htn,htnr,hlen4,hc7,htk1,htk2,htk3,htk4,hts0,hon];rfl) ?_
           refine dD ?_
           refine WOps.le Le.dedup rfl rfl ?_
           refine WOps.norm (by simp [hr,hd,hp1,hp5,hq1,hq3,hdn,hdn8,hmq,hm1,hlen,hc1,hsn,hsn1,hmsl,hosl,hlen2,hc4,hwn,hwnr,hssl,hesl,hlen3,hc6,htn,htnr,hlen4,hc7,htk1,htk2,htk3,htk4,hts0,hon];rfl) ?_
           refine oN 1 ?_
           refine oK [10,11,12] ?_
           refine W.ret ?_
           refine er false [] [(10000,10000),(20000,9000),(20001,9002)] ?_
           first
           | (refine ⟨((⟨ms,ws,ss,ts,dn⟩,⟨os,es⟩,hb0),_), ?_,rfl,qfin.1,qfin.2,qhb0.symm⟩;show _=AV.tup [.agg [.own 20000 0 ms.length,weiV ws,.own 20001 0 ss.length,triV ts,I dn],facV ⟨os,es⟩,B hb0];rw [hmsl,hssl];first | done | rfl)
           | (refine ⟨((⟨ms,ws,ss,us,dn⟩,⟨os,es⟩,hb1),_), ?_,rfl,qfin2.1,qfin2.2,qhb1.symm⟩;show _=AV.tup [.agg [.own 20000 0 ms.length,weiV ws,.own 20001 0 ss.length,triV us,I dn],facV ⟨os,es⟩,B hb1];rw [hmsl,hssl];first | done | rfl)
           | (obtain rfl:ts=[]:=List.length_eq_zero_iff.1 hts1;refine ⟨((⟨ms,ws,ss,[],dn⟩,⟨os,es⟩,hb0),_), ?_,rfl,qfin.1,qfin.2,qhb0.symm⟩;show _=AV.tup [.agg [.own 20000 0 ms.length,weiV ws,.own 20001 0 ss.length,triV [],I dn],facV ⟨os,es⟩,B hb0];rw [hmsl,hssl];first | done | rfl)
         ·
          replace F:=F.add hts0
          have hts1:ts.length=0:=by omega
          replace F:=F.add hts1
          refine W.seqR ?_
          refine oN 5 ?_
          refine gF ?_
          refine gF ?_
          refine oN 1 ?_
          refine oK [0,10,11,13,14,27,254] ?_
          refine cF ?_
          refine W.skip ?_
          refine hK17 _ ?_
          clear hK17 K17
          refine W.weaken (Le.freeze (id:=9001) (by simp [hr,hd,hp1,hp5,hq1,hq3,hdn,hdn8,hmq,hm1,hlen,hc1,hsn,hsn1,hmsl,hosl,hlen2,hc4,hwn,hwnr,hssl,hesl,hlen3,hc6,htn,htnr,hlen4,hc7,htk1,htk2,htk3,htk4,hts0,hts1];rfl)) ?_
          refine W.weaken (Le.freeze (id:=9003) (by simp [hr,hd,hp1,hp5,hq1,hq3,hdn,hdn8,hmq,hm1,hlen,hc1,hsn,hsn1,hmsl,hosl,hlen2,hc4,hwn,hwnr,hssl,hesl,hlen3,hc6,htn,htnr,hlen4,hc7,htk1,htk2,htk3,htk4,hts0,hts1];rfl)) ?_
          refine W.weaken (Le.freeze (id:=9004) (by simp [hr,hd,hp1,hp5,hq1,hq3,hdn,hdn8,hmq,hm1,hlen,hc1,hsn,hsn1,hmsl,hosl,hlen2,hc4,hwn,hwnr,hssl,hesl,hlen3,hc6,htn,htnr,hlen4,hc7,htk1,htk2,htk3,htk4,hts0,hts1];rfl)) ?_
          refine W.weaken (Le.freeze (id:=9005) (by simp [hr,hd,hp1,hp5,hq1,hq3,hdn,hdn8,hmq,hm1,hlen,hc1,hsn,hsn1,hmsl,hosl,hlen2,hc4,hwn,hwnr,hssl,hesl,hlen3,hc6,htn,htnr,hlen4,hc7,htk1,htk2,htk3,htk4,hts0,hts1];rfl)) ?_
          refine wD 5 [(3,[80]),(4,[88])] [[],[],[],[0],[0,3,1],[1,3,0,4,2]] ?_
          refine dB [([278,279],[],[]),([277,279],[false],[80]),([277,278],[false,false],[80,88])] 2 3 ?_
          refine WDraw.upd hΓ [80] (viewB_eq (L:=[278,279]) (S:=[true,false,false]) (O:=[]) (by kernel_rfl) (by kernel_rfl) (by simp [hr,hd,hp1,hp5,hq1,hq3,hdn,hdn8,hmq,hm1,hlen,hc1,hsn,hsn1,hmsl,hosl,hlen2,hc4,hwn,hwnr,hssl,hesl,hlen3,hc6,htn,htnr,hlen4,hc7,htk1,htk2,htk3,htk4,hts0,hts1];rfl)) (by first | rfl | simp) (by simp [hr,hd,hp1,hp5,hq1,hq3,hdn,hdn8,hmq,hm1,hlen,hc1,hsn,hsn1,hmsl,hosl,hlen2,hc4,hwn,hwnr,hssl,hesl,hlen3,hc6,htn,htnr,hlen4,hc7,htk1,htk2,htk3,htk4,hts0,hts1];first | rfl | exact ⟨rfl,rfl⟩) (by simp [hr,hd,hp1,hp5,hq1,hq3,hdn,hdn8,hmq,hm1,hlen,hc1,hsn,hsn1,hmsl,hosl,hlen2,hc4,hwn,hwnr,hssl,hesl,hlen3,hc6,htn,htnr,hlen4,hc7,htk1,htk2,htk3,htk4,hts0,hts1];first | done | rfl) (.inr (by simp)) (by simp [hr,hd,hp1,hp5,hq1,hq3,hdn,hdn8,hmq,hm1,hlen,hc1,hsn,hsn1,hmsl,hosl,hlen2,hc4,hwn,hwnr,hssl,hesl,hlen3,hc6,htn,htnr,hlen4,hc7,htk1,htk2,htk3,htk4,hts0,hts1];rfl) ?_
          refine WDraw.upd hΓ [88] (viewB_eq (L:=[279]) (S:=[true,true,false,true]) (O:=[]) (by kernel_rfl) (by kernel_rfl) (by simp [hr,hd,hp1,hp5,hq1,hq3,hdn,hdn8,hmq,hm1,hlen,hc1,hsn,hsn1,hmsl,hosl,hlen2,hc4,hwn,hwnr,hssl,hesl,hlen3,hc6,htn,htnr,hlen4,hc7,htk1,htk2,htk3,htk4,hts0,hts1];rfl)) (by first | rfl | simp) (by simp [hr,hd,hp1,hp5,hq1,hq3,hdn,hdn8,hmq,hm1,hlen,hc1,hsn,hsn1,hmsl,hosl,hlen2,hc4,hwn,hwnr,hssl,hesl,hlen3,hc6,htn,htnr,hlen4,hc7,htk1,htk2,htk3,htk4,hts0,hts1];first | rfl | exact ⟨rfl,rfl⟩) (by simp [hr,hd,hp1,hp5,hq1,hq3,hdn,hdn8,hmq,hm1,hlen,hc1,hsn,hsn1,hmsl,hosl,hlen2,hc4,hwn,hwnr,hssl,hesl,hlen3,hc6,htn,htnr,hlen4,hc7,htk1,htk2,htk3,htk4,hts0,hts1];first | done | rfl) (.inr (by simp)) (by simp [hr,hd,hp1,hp5,hq1,hq3,hdn,hdn8,hmq,hm1,hlen,hc1,hsn,hsn1,hmsl,hosl,hlen2,hc4,hwn,hwnr,hssl,hesl,hlen3,hc6,htn,htnr,hlen4,hc7,htk1,htk2,htk3,htk4,hts0,hts1];rfl) ?_
          refine dD ?_
          refine WOps.le Le.dedup rfl rfl ?_
          refine WOps.norm (by simp [hr,hd,hp1,hp5,hq1,hq3,hdn,hdn8,hmq,hm1,hlen,hc1,hsn,hsn1,hmsl,hosl,hlen2,hc4,hwn,hwnr,hssl,hesl,hlen3,hc6,htn,htnr,hlen4,hc7,htk1,htk2,htk3,htk4,hts0,hts1];rfl) ?_
          refine oN 1 ?_
          refine oK [10,11,12] ?_
          refine W.ret ?_
          refine er false [] [(10000,10000),(20000,9000),(20001,9002)] ?_
          first
          | (refine ⟨((⟨ms,ws,ss,ts,dn⟩,⟨os,es⟩,hb0),_), ?_,rfl,qfin.1,qfin.2,qhb0.symm⟩;show _=AV.tup [.agg [.own 20000 0 ms.length,weiV ws,.own 20001 0 ss.length,triV ts,I dn],facV ⟨os,es⟩,B hb0];rw [hmsl,hssl];first | done | rfl)
          | (refine ⟨((⟨ms,ws,ss,us,dn⟩,⟨os,es⟩,hb1),_), ?_,rfl,qfin2.1,qfin2.2,qhb1.symm⟩;show _=AV.tup [.agg [.own 20000 0 ms.length,weiV ws,.own 20001 0 ss.length,triV us,I dn],facV ⟨os,es⟩,B hb1];rw [hmsl,hssl];first | done | rfl)
          | (obtain rfl:ts=[]:=List.length_eq_zero_iff.1 hts1;refine ⟨((⟨ms,ws,ss,[],dn⟩,⟨os,es⟩,hb0),_), ?_,rfl,qfin.1,qfin.2,qhb0.symm⟩;show _=AV.tup [.agg [.own 20000 0 ms.length,weiV ws,.own 20001 0 ss.length,triV [],I dn],facV ⟨os,es⟩,B hb0];rw [hmsl,hssl];first | done | rfl)
end Go.Sim
