/- Whatever truly is: the law answers true. -/
import Derived.Test.YtojjfnhjmfokhaaQr
import Derived.Test.YtojjfnhjmfokhaaOc
namespace Go.Sim
open Go.Proofs
set_option maxRecDepth 100000
set_option linter.unusedSimpArgs false
set_option linter.unusedVariables false
attribute [-simp] List.map_set List.map_take List.map_drop
attribute [simp] spn_eta
set_option maxHeartbeats 4000000 in
theorem ScaleTrue_ok (nums:List Int):ACalls Try.prog 12 [ints nums] [] (fun r o=>r=B true∧o=[]):=by
 have F:=Fx.nil
 refine ent Try.func12 Try.ntmps12 Try.results12 ?_
 refine rK [0] ?_
 refine W.seqR ?_
 refine oN 1 ?_
 refine oC [] ?_
 refine CallT.mk (DieOf_ok nums) (by simp) ?_
 obtain ⟨f,qf⟩:∃ f,nums.foldl dieStep 2611923443488327891=f:=⟨_,rfl⟩
 have hf:=qf
 replace F:=F.add hf
 refine WOps.norm (by simp [hf]; rfl) ?_
 refine oN 1 ?_
 refine oK [3] ?_
 refine W.seqR ?_
 refine oN 1 ?_
 refine oC [(10000,192)] ?_
 refine CallT.mkE (BenchOf_ok f 4 2 4 6 (by omega) (by omega) (by omega) (by omega)) (fun z27 hz27=>⟨(by simp [hf]), ?_⟩)
 refine WOps.norm (by simp [hf]; rfl) ?_
 refine oN 9 ?_
 refine oK [3,4,5,6] ?_
 obtain ⟨⟨b,fc,hb⟩,g1⟩:=z27
 obtain ⟨qmm,qff,qhh⟩:=hz27
 have hM:MadeB b 4 2 4 6:=qmm
 have qF:FacOk b fc:=qff
 have qhb:hb=holdB b fc:=qhh
 have hm1:b.mas.length≤4:=hM.mas
 have hm3:b.scl.length≤2:=hM.scl
 have hs1:1≤b.scl.length:=hM.ok.s1
 have qv:=hM.ok
 have qlb:=made_len hM (by omega) (by omega) (by omega)
 have qc1:=castV_lo g1 (b.scl.length:Int)
 have qc2:=castV_le g1 (b.scl.length:Int) (by omega)
 obtain ⟨sn,qsn⟩:∃ c:Nat,castV g1 (b.scl.length:Int)=(c:Int):=⟨(castV g1 (b.scl.length:Int)).toNat,by omega⟩
 have hsn:=qsn
 obtain ⟨g2,qg2⟩:∃ x,castF g1 (b.scl.length:Int)=x:=⟨_,rfl⟩
 have hg2:=qg2
 have qdy:=qv.days
 have hdy0:0≤b.days:=qdy.1
 have hdy8:b.days≤8:=qdy.2
 have qc3:=castV_lo g2 (b.days + 1)
 have qc4:=castV_le g2 (b.days + 1) (by omega)
 obtain ⟨dn,qdn⟩:∃ c:Nat,castV g2 (b.days + 1)=(c:Int):=⟨(castV g2 (b.days + 1)).toNat,by omega⟩
 have hdn:=qdn
 obtain ⟨g3,qg3⟩:∃ x,castF g2 (b.days + 1)=x:=⟨_,rfl⟩
 have hg3:=qg3
 have qc5:=castV_lo g3 1500
 have qc6:=castV_le g3 1500 (by omega)
 obtain ⟨sh,qsh⟩:∃ c:Nat,castV g3 1500=(c:Int):=⟨(castV g3 1500).toNat,by omega⟩
 have hsh:=qsh
 obtain ⟨g4,qg4⟩:∃ x,castF g3 1500=x:=⟨_,rfl⟩
 have hg4:=qg4
 have qc7:=castV_lo g4 12
 have qc8:=castV_le g4 12 (by omega)
 obtain ⟨lm,qlm2⟩:∃ c:Nat,castV g4 12=(c:Int):=⟨(castV g4 12).toNat,by omega⟩
 have hlm:=qlm2
 have hlm11:lm≤11:=by omega
 have hsh15:sh≤1499:=by omega
 have hsnl:sn < b.scl.length:=by omega
 have hddb:(dd b:Int)=b.days + 1:=by unfold dd; omega
 have qdd:dn < dd b:=by omega
 have hdd9:dd b≤9:=dd_le qv
 replace F:=F.add hM |>.add hm1 |>.add hm3 |>.add hs1 |>.add hsn |>.add hg2 |>.add hdy0 |>.add hdy8 |>.add hdn |>.add hg3 |>.add hsh |>.add hg4 |>.add hlm |>.add hlm11 |>.add hsh15 |>.add hsnl |>.add hddb |>.add hdd9
 refine wD 13 [(4,[192]),(9,[192]),(11,[192])] [[],[],[1],[1,2],[2,1,3,0],[],[],[6],[6,7],[0,3,1,2,4,7,6,8,5],[],[5,8,6,7,4,2,1,3,0,9,10],[],[10,9,0,3,1,2,4,7,6,8,5,11,12],[12,11,5,8,6,7,9,10,13,0,3,1,2,4],[13,10,11,12,14,5,8,6,7,4,2,1,3,0,9],[14,12,13,15,10,9,0,3,1,2,4,7,6,8,5,11],[15,14,16,12,11,5,8,6,7,4,2,1,3,0,9,10,13]] ?_
 refine dB [([32,33,34,36,37,38,39,41,43],[],[]),([31,36,37,38,39,41,43],[false],[]),([31,36,37,38,39,41,43],[false,true],[]),([31,36,37,38,39,41,43],[false,true,true],[])] 9 4 ?_
 refine dC [36,37,38,39,41,43] [true,true,true,true] [] [(10000,192)] ?_
 refine cd (Cast_ok g1 (b.scl.length:Int) (by omega)) ?_
 refine dBw [([31,32,33,34,35,37,38,39,41,43],[false,false,false,false,false],[192]),([31,32,33,34,35,36,41,43],[false,false,false,false,false,false],[192]),([31,32,33,34,35,36,41,43],[false,false,false,false,false,false,true],[192]),([31,32,33,34,35,36,41,43],[false,false,false,false,false,false,true,true],[192])] 4 9 ?_
 refine dC [41,43] [true,true,true,true,true,true,true,true,true] [] [(10000,192)] ?_
 refine cd (Cast_ok g2 (b.days + 1) (by omega)) ?_
 refine dB [([31,32,33,34,35,36,37,38,39,40,43],[false,false,false,false,false,false,false,false,false,false],[192,192])] 2 11 ?_
 refine dC [43] [true,true,true,true,true,true,true,true,true,true,true] [] [(10000,192)] ?_
 refine cd (Cast_ok g3 1500 (by omega)) ?_
 refine dB [([31,32,33,34,35,36,37,38,39,40,41,42],[false,false,false,false,false,false,false,false,false,false,false,false],[192,192,192])] 0 13 ?_
 refine dD ?_
 refine oC [(10000,192)] ?_
 refine ct (Cast_ok g4 12 (by omega)) ?_
 refine oN 4 ?_
 refine oK [4,5,6,7,8,9,10] ?_
 have qlim:0≤(lm:Int)∧(lm:Int)≤10000:=by omega
 have qshl:0≤(sh:Int)∧(sh:Int)≤2000000:=by omega
 obtain ⟨E,qE⟩:∃ E,knE b=E:=⟨_,rfl⟩
 have hE1:offsE b=E:=(offE_kn qv).trans qE
 have hE2:errsE b sn=E:=(errE_kn qv hsnl).trans qE
 have hE3:keeE b sn dn lm=E:=(keeE_kn qv hsnl qdd qlim).trans qE
 have hE4:weiE b sn dn sh=E:=(onE_kn qv hsnl qdd qshl).trans qE
 have qE09:E=0∨E=9:=by rw [← qE]; exact knE_cases b
 obtain ⟨P,qP⟩:∃ P,offsL b=P:=⟨_,rfl⟩
 obtain ⟨X,qX⟩:∃ X,errsL b sn=X:=⟨_,rfl⟩
 obtain ⟨v,qvv⟩:∃ v,keeV b sn dn lm=v:=⟨_,rfl⟩
 obtain ⟨w,qww⟩:∃ w,weiX b sn dn sh=w:=⟨_,rfl⟩
 have hP:=qP
 have hX:=qX
 have hvv:=qvv
 have hww:=qww
 have qall:=fun h=>true_all qv qF (qhb.symm.trans h)
 replace F:=F.add hE1 |>.add hE2 |>.add hE3 |>.add hE4 |>.add hP |>.add hX |>.add hvv |>.add hww
 refine W.seqR ?_
 refine oN 1 ?_
 refine oC [] ?_
 refine ct (Offs_ok b qlb) ?_
 refine oN 5 ?_
 refine oK [4,5,6,7,8,9,10,11,12] ?_
 refine W.seqR ?_
 refine oN 2 ?_
 refine oC [] ?_
 refine ct (Errors_ok b qlb sn) ?_
 refine oN 5 ?_
 refine oK [4,5,6,7,8,9,10,11,12,13,14] ?_
 refine W.seqR ?_
 refine oN 4 ?_
 refine oC [] ?_
 refine ct (Weight_ok b qlb sn dn sh) ?_
 refine oN 6 ?_
 refine oK [4,5,6,7,8,9,10,11,12,13,14,15,16] ?_
 refine W.seqR ?_
 refine oN 4 ?_
 refine oC [] ?_
 refine ct (Keeps_ok b qlb sn dn lm) ?_
 refine oN 5 ?_
 refine oK [4,5,6,7,8,9,10,11,12,13,14,15,16,17,18] ?_
 refine W.seqk fun K1 hK1=>?_
 by_cases hhb:hb=true
 ·
  replace F:=F.add hhb
  obtain ⟨qm1,⟨qm2,qm3⟩,qm4⟩:=qall hhb
  obtain ⟨⟨qm5,qm6⟩,qm7⟩:=qm4 sn hsnl
  obtain ⟨qm8,qm9⟩:=qm7 dn qdd
  have hEz:E=0:=qE.symm.trans qm1
  have hPl:P.length=b.mas.length:=by rw [← qP]; exact qm2
  have hXl:X.length=dd b:=by rw [← qX]; exact qm5
  have hol:fc.offs.length=b.mas.length:=qF.offs.1
  have hel:fc.errs.length=b.scl.length:=qF.errs.1
  have hse:sn < fc.errs.length:=by omega
  obtain ⟨row,qrow⟩:∃ row,fc.errs[sn]=row:=⟨_,rfl⟩
  have hrow:=qrow
  have qnr:nth fc.errs sn=row:=by rw [nth_get hse]; exact qrow
  have hrl:row.length=dd b:=by
    have h:=(qF.errs.2 sn hsnl).row.len
    rw [qnr] at h; rw [h]; unfold dd; rfl
  have qpi:∀ k,(h1:k < P.length)→(h2:k < fc.offs.length)→(h3:k < b.mas.length)→(P[k].lo≤fc.offs[k]∧fc.offs[k]≤P[k].hi)∧within P[k] b.mas[k].off:=by subst qP; exact qm3
  have qxi:∀ k,(h1:k < X.length)→X[k].lo≤nth row k∧nth row k≤X[k].hi:=by subst qX; rw [qnr] at qm6; exact qm6
  have hdnr:dn < row.length:=by omega
  obtain ⟨n,qn⟩:∃ n,row[dn]=n:=⟨_,rfl⟩
  have hrn:=qn
  have qnn:nth (nth fc.errs sn) dn=n:=by rw [qnr,nth_get hdnr]; exact qn
  have qrb:=RowF.bd (qF.errs.2 sn hsnl).ok (qF.errs.2 sn hsnl).row dn (by unfold dd at qdd; omega)
  rw [qnn] at qrb
  have qwt:=(qm8 sh qshl).2
  rw [qnn,qww] at qwt
  have hw1:w.lo≤(sh:Int) - n:=qwt.1
  have hw2:(sh:Int) - n≤w.hi:=qwt.2
  have hdni:(dn:Int) < b.days + 1:=by omega
  have hddn:dn < dd b:=qdd
  have hwrn:IntKind.i64.wrap ((sh:Int) - n)=(sh:Int) - n:=wrap_i64 (by omega) (by omega)
  have qkv:=qm9 lm qlim
  rw [qnn,qvv] at qkv
  replace F:=F.add hEz |>.add hPl |>.add hXl |>.add hol |>.add hel |>.add hse |>.add hrow |>.add hrl |>.add hdnr |>.add hrn |>.add hw1 |>.add hw2 |>.add hdni |>.add hddn |>.add hwrn
  refine rK [4,5,7,8,9,10,11,12,13,14,15,16,17,18,73] ?_
  refine cF ?_
  refine W.skip ?_
  refine hK1 _ ?_
  clear hK1 K1
  refine W.seqk fun K2 hK2=>?_
  refine W.seqR ?_
  refine oN 3 ?_
  refine gT ?_
  refine gT ?_
  refine oN 2 ?_
  refine gT ?_
  refine gT ?_
  refine oN 2 ?_
  refine gT ?_
  refine gT ?_
  refine oN 2 ?_
  refine gT ?_
  refine gT ?_
  refine gT ?_
  refine gT ?_
  refine gT ?_
  refine gT ?_
  refine oN 2 ?_
  refine gT ?_
  refine gT ?_
  refine gT ?_
  refine gT ?_
  refine gTw ?_
  refine gT ?_
  refine oN 1 ?_
  refine oK [4,5,7,8,9,10,11,13,15,17,127] ?_
  refine cF ?_
  refine W.skip ?_
  refine hK2 _ ?_
  clear hK2 K2
  refine W.seqk fun K3 hK3=>?_
  refine rK [4,5,7,8,9,10,11,13,15,17,19] ?_
  refine W.block ?_
  refine lpa (α:=Nat) [4,5,7,8,9,10,11,13,15,17] [130,143,156] [] (fun k=>[(19,I k)]) (fun k=>[]) (fun k=>k≤b.mas.length) (fun k=>b.mas.length - k) 0 v0 ?_
  ·
   intro k hI0
   simp only [List.cons_append,List.nil_append]
   try dsimp only at hI0
   replace F:=F.add hI0
   refine W.seqk fun K4 hK4=>?_
   refine rK [4,5,7,8,9,10,11,13,15,17,19,131] ?_
   refine it (fun hc3=>?_) (fun hc3=>?_)
   ·
    try simp at hc3
    replace F:=F.add hc3
    refine W.skip ?_
    refine hK4 _ ?_
    clear hK4 K4
    refine W.seqk fun K5 hK5=>?_
    refine W.block ?_
    have hkm:k < b.mas.length:=by omega
    have hkP:k < P.length:=by omega
    have hko:k < fc.offs.length:=by omega
    obtain ⟨⟨h1w,h2w⟩,h3w,h4w⟩:=qpi k hkP hko hkm
    have hq1:P[k].lo≤fc.offs[k]:=h1w
    have hq2:fc.offs[k]≤P[k].hi:=h2w
    have hq3:b.mas[k].off.lo≤P[k].lo:=h3w
    have hq4:P[k].hi≤b.mas[k].off.hi:=h4w
    replace F:=F.add hkm |>.add hkP |>.add hko |>.add hq1 |>.add hq2 |>.add hq3 |>.add hq4
    refine wD 22 [] [[],[],[1,0],[0,1,2],[],[4],[],[6,4,5],[5,4,6,7],[7,6,4,5,8,2,1,0,3],[3,0,1,2,8,5,4,6,7,9],[9,7,6,4,5,8,2,1,0,3,10],[10,3,0,1,2,8,5,4,6,7,9,11],[10,3,0,1,2,8,5,4,6,7,9,11],[13,11,9,7,6,4,5,8,2,1,0,3,10,12],[12,10,3,0,1,2,8,5,4,6,7,9,11,13,14],[10,3,0,1,2,8,5,4,6,7,9,11],[11,9,7,6,4,5,8,2,1,0,3,10,16],[10,3,0,1,2,8,5,4,6,7,9,11],[18,16,10,3,0,1,2,8,5,4,6,7,9,11,17],[17,11,9,7,6,4,5,8,2,1,0,3,10,16,18,19],[19,18,16,10,3,0,1,2,8,5,4,6,7,9,11,17,20],[20,17,16,18,19,21,14,13,11,9,7,6,4,5,8,2,1,0,3,10,12,15],[15,12,10,3,0,1,2,8,5,4,6,7,9,11,13,14,21,19,18,16,17,20,22],[22,20,17,16,18,19,21,14,13,12,15,23,10,3,0,1,2,8,5,4,6,7,9,11]] ?_
    refine dB [([135,138,139,140,141,142],[],[]),([134,138,139,140,141,142],[false],[]),([138,139,140,141,142],[true,true],[]),([138,139,140,141,142],[true,true,true],[]),([134,135,136,137,140],[false,false,false,false],[]),([134,135,136,137,140],[false,false,false,false,true],[]),([134,135,136,137,138,139],[false,false,false,false,false,false],[]),([134,135,136,137],[false,false,false,false,true,true,true],[]),([134,135,136,137],[false,false,false,false,true,true,true,true],[])] 13 9 ?_
    refine dC [] [true,true,true,true,true,true,true,true,true] [] [] ?_
    refine cd (Holds_ok P[k] fc.offs[k]) ?_
    refine dB [([],[true,true,true,true,true,true,true,true,true,true],[]),([],[true,true,true,true,true,true,true,true,true,true,true],[])] 10 12 ?_
    refine dT [147,150,151,152,153,154,155] [true,true,true,true,true,true,true,true,true,true,true,true] [] ?_
    refine dT [146,150,151,152,153,154,155] [true,true,true,true,true,true,true,true,true,true,true,true,false] [] ?_
    refine dT [150,151,152,153,154,155] [true,true,true,true,true,true,true,true,true,true,true,true,true,true] [] ?_
    refine dT [150,151,152,153,154,155] [true,true,true,true,true,true,true,true,true,true,true,true,true,true,true] [] ?_
    refine dT [146,147,148,149,152] [true,true,true,true,true,true,true,true,true,true,true,true,false,false,false,false] [] ?_
    refine dT [146,147,148,149,152] [true,true,true,true,true,true,true,true,true,true,true,true,false,false,false,false,true] [] ?_
    refine dT [146,147,148,149,150,151] [true,true,true,true,true,true,true,true,true,true,true,true,false,false,false,false,false,false] [] ?_
    refine dT [146,147,148,149] [true,true,true,true,true,true,true,true,true,true,true,true,false,false,false,false,true,true,true] [] ?_
    refine dT [146,147,148,149] [true,true,true,true,true,true,true,true,true,true,true,true,false,false,false,false,true,true,true,true] [] ?_
    refine dT [146,147,148,149] [true,true,true,true,true,true,true,true,true,true,true,true,false,false,false,false,true,true,true,true,true] [] ?_
    refine dD ?_
    refine gC [] ?_
    refine ct (Within_ok P[k] b.mas[k].off) ?_
    refine gT ?_
    refine oN 1 ?_
    refine oK [4,5,7,8,9,10,11,13,15,17,19,158] ?_
    refine cF ?_
    refine W.skip ?_
    refine hK5 _ ?_
    clear hK5 K5
    refine rEw ?_
    refine ⟨k + 1,lf0,v0,v0⟩
   ·
    try simp at hc3
    replace F:=F.add hc3
    refine W.exit ?_
    refine hK3 _ ?_
    clear hK4 K4 hK3 K3
    refine W.seqk fun K6 hK6=>?_
    refine rK [5,7,8,9,10,13,15,17,20] ?_
    refine W.block ?_
    refine lpa (α:=Nat) [5,7,8,9,10,13,15,17] [161,177] [] (fun k=>[(20,I k)]) (fun k=>[]) (fun k=>k≤dd b) (fun k=>dd b - k) 0 v0 ?_
    ·
     intro k hI1
     simp only [List.cons_append,List.nil_append]
     try dsimp only at hI1
     replace F:=F.add hI1
     refine W.seqk fun K7 hK7=>?_
     refine rK [5,7,8,9,10,13,15,17,20,162] ?_
     refine it (fun hc5=>?_) (fun hc5=>?_)
     ·
      try simp at hc5
      replace F:=F.add hc5
      refine W.skip ?_
      refine hK7 _ ?_
      clear hK7 K7
      refine W.seqk fun K8 hK8=>?_
      refine W.block ?_
      have hkm:k < dd b:=by omega
      have hkX:k < X.length:=by omega
      have hkr:k < row.length:=by omega
      obtain ⟨h1w,h2w⟩:=qxi k hkX
      rw [nth_get hkr] at h1w h2w
      have hq1:X[k].lo≤row[k]:=h1w
      have hq2:row[k]≤X[k].hi:=h2w
      replace F:=F.add hkm |>.add hkX |>.add hkr |>.add hq1 |>.add hq2
      refine wD 12 [] [[],[],[1,0],[0,1,2],[],[4],[],[6,4,5],[5,4,6,7],[],[9,7,6,4,5,8],[8,5,4,6,7,9,10],[10,9,7,6,4,5,8,11,2,1,0,3],[3,0,1,2,11,8,5,4,6,7,9,10,12]] ?_
      refine dB [([166,169,170,171,172,173,174,175,176],[],[]),([165,169,170,171,172,173,174,175,176],[false],[]),([169,170,171,172,173,174,175,176],[true,true],[]),([169,170,171,172,173,174,175,176],[true,true,true],[]),([165,166,167,168,171,174],[false,false,false,false],[]),([165,166,167,168,171,174],[false,false,false,false,true],[]),([165,166,167,168,169,170,174],[false,false,false,false,false,false],[]),([165,166,167,168,174],[false,false,false,false,true,true,true],[]),([165,166,167,168,174],[false,false,false,false,true,true,true,true],[]),([165,166,167,168,169,170,171,172,173],[false,false,false,false,false,false,false,false,false],[]),([165,166,167,168],[false,false,false,false,true,true,true,true,true,true],[]),([165,166,167,168],[false,false,false,false,true,true,true,true,true,true,true],[])] 0 12 ?_
      refine dD ?_
      refine oC [] ?_
      refine ct (Holds_ok X[k] row[k]) ?_
      refine oN 1 ?_
      refine oK [5,7,8,9,10,13,15,17,20,178] ?_
      refine cF ?_
      refine W.skip ?_
      refine hK8 _ ?_
      clear hK8 K8
      refine rEw ?_
      refine ⟨k + 1,lf0,v0,v0⟩
     ·
      try simp at hc5
      replace F:=F.add hc5
      refine W.exit ?_
      refine hK6 _ ?_
      clear hK7 K7 hK6 K6
      refine rK [9,10,15,17,21] ?_
      by_cases hn1 : -(lm:Int)≤n
      ·
       replace F:=F.add hn1
       by_cases hn2:n≤(lm:Int)
       ·
        replace F:=F.add hn2
        refine W.seqR ?_
        refine oNw 5 ?_
        refine gT ?_
        refine gT ?_
        refine gT ?_
        refine oN 2 ?_
        refine oK [9,15,17,21,22] ?_
        by_cases hv1:v=1
        ·
         replace F:=F.add hv1
         have q1:=qkv.1 hv1
         have hb1:(v != 1)=false:=by simp [hv1]
         have hb2:(v != 2)=true:=by simp [hv1]
         replace F:=F.add hb1 |>.add hb2
         refine W.seqR ?_
         refine oN 4 ?_
         refine oC [] ?_
         refine ct (Holds_ok w ((sh:Int) - n)) ?_
         refine oN 1 ?_
         refine gT ?_
         refine gT ?_
         refine gT ?_
         refine gT ?_
         refine gT ?_
         refine oN 2 ?_
         refine gT ?_
         refine gT ?_
         refine gT ?_
         refine gF ?_
         refine gF ?_
         refine gT ?_
         refine oN 2 ?_
         refine gC [] ?_
         refine ct (awake_ok) ?_
         refine oN 2 ?_
         refine oK [2] ?_
         refine W.ret ?_
         exact er0 false [] []
        ·
         replace F:=F.add hv1
         have hb1:(v != 1)=true:=by simp [hv1]
         replace F:=F.add hb1
         by_cases hv2:v=2
         ·
          replace F:=F.add hv2
          have q2:=qkv.2 hv2
          have hb2:(v != 2)=false:=by simp [hv2]
          replace F:=F.add hb2
          refine W.seqR ?_
          refine oN 4 ?_
          refine oC [] ?_
          refine ct (Holds_ok w ((sh:Int) - n)) ?_
          refine oN 1 ?_
          refine gT ?_
          refine gT ?_
          refine gT ?_
          refine gF ?_
          refine gT ?_
          refine oN 2 ?_
          refine gT ?_
          refine gT ?_
          refine gT ?_
          refine gT ?_
          refine gT ?_
          refine gT ?_
          refine oN 2 ?_
          refine gF ?_
          refine oN 2 ?_
          refine oK [2] ?_
          refine W.ret ?_
          exact er0 false [] []
         ·
          replace F:=F.add hv2
          have hb2:(v != 2)=true:=by simp [hv2]
          replace F:=F.add hb2
          refine W.seqR ?_
          refine oN 4 ?_
          refine oC [] ?_
          refine ct (Holds_ok w ((sh:Int) - n)) ?_
          refine oN 1 ?_
          refine gT ?_
          refine gT ?_
          refine gT ?_
          refine gF ?_
          refine gT ?_
          refine oN 2 ?_
          refine gT ?_
          refine gT ?_
          refine gT ?_
          refine gF ?_
          refine gF ?_
          refine gT ?_
          refine oN 2 ?_
          refine gC [] ?_
          refine ct (awake_ok) ?_
          refine oN 2 ?_
          refine oK [2] ?_
          refine W.ret ?_
          exact er0 false [] []
       ·
        replace F:=F.add hn2
        refine W.seqR ?_
        refine oNw 5 ?_
        refine gT ?_
        refine gT ?_
        refine gT ?_
        refine oN 2 ?_
        refine oK [9,15,17,21,22] ?_
        by_cases hv1:v=1
        ·
         replace F:=F.add hv1
         have q1:=qkv.1 hv1
         have hb1:(v != 1)=false:=by simp [hv1]
         have hb2:(v != 2)=true:=by simp [hv1]
         replace F:=F.add hb1 |>.add hb2
         refine W.seqR ?_
         refine oN 4 ?_
         refine oC [] ?_
         refine ct (Holds_ok w ((sh:Int) - n)) ?_
         refine oN 1 ?_
         refine gT ?_
         refine gT ?_
         refine gT ?_
         refine gT ?_
         refine gT ?_
         refine oN 2 ?_
         refine gF ?_
         refine gF ?_
         refine gF ?_
         refine gF ?_
         refine gF ?_
         refine gF ?_
         refine oN 2 ?_
         refine gF ?_
         refine oN 2 ?_
         refine oK [2] ?_
         refine W.ret ?_
         exact er0 false [] []
        ·
         replace F:=F.add hv1
         have hb1:(v != 1)=true:=by simp [hv1]
         replace F:=F.add hb1
         by_cases hv2:v=2
         ·
          replace F:=F.add hv2
          have q2:=qkv.2 hv2
          have hb2:(v != 2)=false:=by simp [hv2]
          replace F:=F.add hb2
          refine W.seqR ?_
          refine oN 4 ?_
          refine oC [] ?_
          refine ct (Holds_ok w ((sh:Int) - n)) ?_
          refine oN 1 ?_
          refine gT ?_
          refine gT ?_
          refine gT ?_
          refine gF ?_
          refine gT ?_
          refine oN 2 ?_
          refine gT ?_
          refine gT ?_
          refine gT ?_
          refine gT ?_
          refine gT ?_
          refine gT ?_
          refine oN 2 ?_
          refine gC [] ?_
          refine ct (awake_ok) ?_
          refine oN 2 ?_
          refine oK [2] ?_
          refine W.ret ?_
          exact er0 false [] []
         ·
          replace F:=F.add hv2
          have hb2:(v != 2)=true:=by simp [hv2]
          replace F:=F.add hb2
          refine W.seqR ?_
          refine oN 4 ?_
          refine oC [] ?_
          refine ct (Holds_ok w ((sh:Int) - n)) ?_
          refine oN 1 ?_
          refine gT ?_
          refine gT ?_
          refine gT ?_
          refine gF ?_
          refine gT ?_
          refine oN 2 ?_
          refine gT ?_
          refine gT ?_
          refine gT ?_
          refine gF ?_
          refine gF ?_
          refine gT ?_
          refine oN 2 ?_
          refine gC [] ?_
          refine ct (awake_ok) ?_
          refine oN 2 ?_
          refine oK [2] ?_
          refine W.ret ?_
          exact er0 false [] []
      ·
       replace F:=F.add hn1
       refine W.seqR ?_
       refine oNw 5 ?_
       refine gF ?_
       refine gF ?_
       refine gF ?_
       refine oN 2 ?_
       refine oK [9,15,17,21,22] ?_
       by_cases hv1:v=1
       ·
        replace F:=F.add hv1
        have q1:=qkv.1 hv1
        have hb1:(v != 1)=false:=by simp [hv1]
        have hb2:(v != 2)=true:=by simp [hv1]
        replace F:=F.add hb1 |>.add hb2
        refine W.seqR ?_
        refine oN 4 ?_
        refine oC [] ?_
        refine ct (Holds_ok w ((sh:Int) - n)) ?_
        refine oN 1 ?_
        refine gT ?_
        refine gT ?_
        refine gT ?_
        refine gT ?_
        refine gT ?_
        refine oN 2 ?_
        refine gF ?_
        refine gF ?_
        refine gF ?_
        refine gF ?_
        refine gF ?_
        refine gF ?_
        refine oN 2 ?_
        refine gF ?_
        refine oN 2 ?_
        refine oK [2] ?_
        refine W.ret ?_
        exact er0 false [] []
       ·
        replace F:=F.add hv1
        have hb1:(v != 1)=true:=by simp [hv1]
        replace F:=F.add hb1
        by_cases hv2:v=2
        ·
         replace F:=F.add hv2
         have q2:=qkv.2 hv2
         have hb2:(v != 2)=false:=by simp [hv2]
         replace F:=F.add hb2
         refine W.seqR ?_
         refine oN 4 ?_
         refine oC [] ?_
         refine ct (Holds_ok w ((sh:Int) - n)) ?_
         refine oN 1 ?_
         refine gT ?_
         refine gT ?_
         refine gT ?_
         refine gF ?_
         refine gT ?_
         refine oN 2 ?_
         refine gT ?_
         refine gT ?_
         refine gT ?_
         refine gT ?_
         refine gT ?_
         refine gT ?_
         refine oN 2 ?_
         refine gC [] ?_
         refine ct (awake_ok) ?_
         refine oN 2 ?_
         refine oK [2] ?_
         refine W.ret ?_
         exact er0 false [] []
        ·
         replace F:=F.add hv2
         have hb2:(v != 2)=true:=by simp [hv2]
         replace F:=F.add hb2
         refine W.seqR ?_
         refine oN 4 ?_
         refine oC [] ?_
         refine ct (Holds_ok w ((sh:Int) - n)) ?_
         refine oN 1 ?_
         refine gT ?_
         refine gT ?_
         refine gT ?_
         refine gF ?_
         refine gT ?_
         refine oN 2 ?_
         refine gT ?_
         refine gT ?_
         refine gT ?_
         refine gF ?_
         refine gF ?_
         refine gT ?_
         refine oN 2 ?_
         refine gC [] ?_
         refine ct (awake_ok) ?_
         refine oN 2 ?_
         refine oK [2] ?_
         refine W.ret ?_
         exact er0 false [] []
 ·
  replace F:=F.add hhb
  refine rK [4,5,7,8,9,10,11,12,13,14,15,16,17,18,73] ?_
  refine cT ?_
  by_cases hE0:E=0
  ·
   replace F:=F.add hE0
   refine W.seqR ?_
   refine oN 3 ?_
   refine gF ?_
   refine gF ?_
   refine oN 2 ?_
   refine gT ?_
   refine gT ?_
   refine gT ?_
   refine oN 2 ?_
   refine gT ?_
   refine gT ?_
   refine gT ?_
   refine oN 2 ?_
   refine gT ?_
   refine gT ?_
   refine gT ?_
   refine oN 2 ?_
   refine gC [] ?_
   refine ct (awake_ok) ?_
   refine oN 2 ?_
   refine oK [2] ?_
   refine W.ret ?_
   refine tr ?_
   clear hK1 K1
   exact er0 false [] []
  ·
   replace F:=F.add hE0
   have hE9:E=9:=by omega
   replace F:=F.add hE9
   refine W.seqR ?_
   refine oN 3 ?_
   refine gT ?_
   refine gT ?_
   refine oN 2 ?_
   refine gT ?_
   refine gT ?_
   refine gT ?_
   refine oN 2 ?_
   refine gT ?_
   refine gT ?_
   refine gT ?_
   refine oN 2 ?_
   refine gT ?_
   refine gT ?_
   refine gT ?_
   refine oN 2 ?_
   refine gC [] ?_
   refine ct (awake_ok) ?_
   refine oN 2 ?_
   refine oK [2] ?_
   refine W.ret ?_
   refine tr ?_
   clear hK1 K1
   exact er0 false [] []
end Go.Sim
