/- The ledger of a trade, as it is written. -/
import Derived.Test.YtholkejjmookfaaDoorIe
import Derived.Test.YtholkejjmookfaaDoorVe
namespace Go.Sim
set_option maxHeartbeats 4000000
open Go.Proofs W6
set_option maxRecDepth 100000
set_option linter.unusedSimpArgs false
set_option linter.unusedVariables false
attribute [-simp] List.map_set List.map_take List.map_drop
theorem lrow_ok (ob:Lb) (u:Bool) (v:Value) (bs:List UInt8) (word:ByteArray) (a b:Int) (hw:word.size≤100) (hbs:bs.length≤1000000) (hn:(-9223372036854775808≤a∧a≤9223372036854775807)∧(-9223372036854775808≤b∧b≤9223372036854775807)):ACalls Tryd.prog 26 [.val (.string word),.agg [I a,I b],.ptr 10000 0 0] (bldO ob u v bs) (fun r o=>∃v' : Value,r = .tup []∧o=bldO ob true v' (bs++lineB word [a,b])∧True):=by
 have F:=Fx.nil
 refine ent Tryd.func26 Tryd.ntmps26 Tryd.results26 ?_
 have qla:=Lib.itoa_length_le a hn.1.1 hn.1.2
 have qlb:=Lib.itoa_length_le b hn.2.1 hn.2.2
 obtain ⟨aS,qaS⟩:∃s,numS a=s:=⟨_,rfl⟩
 obtain ⟨bS,qbS⟩:∃s,numS b=s:=⟨_,rfl⟩
 have haS:=qaS
 have hbS:=qbS
 have qsa:aS.size=(Lib.itoa a).length:=by rw [←qaS];exact List.size_toArray
 have qsb:bS.size=(Lib.itoa b).length:=by rw [←qbS];exact List.size_toArray
 have q1:spc.size=1:=rfl
 have q2:nlS.size=1:=rfl
 obtain ⟨S1,qS1⟩:∃s,word++spc=s:=⟨_,rfl⟩
 obtain ⟨S2,qS2⟩:∃s,S1++aS=s:=⟨_,rfl⟩
 obtain ⟨S3,qS3⟩:∃s,S2++spc=s:=⟨_,rfl⟩
 obtain ⟨S4,qS4⟩:∃s,S3++bS=s:=⟨_,rfl⟩
 obtain ⟨S5,qS5⟩:∃s,S4++nlS=s:=⟨_,rfl⟩
 have hS1:=qS1
 have hS2:=qS2
 have hS3:=qS3
 have hS4:=qS4
 have hS5:=qS5
 have k1:S1.size≤101:=by rw [←qS1,ByteArray.size_append];omega
 have k2:S2.size≤123:=by rw [←qS2,ByteArray.size_append];omega
 have k3:S3.size≤124:=by rw [←qS3,ByteArray.size_append];omega
 have k4:S4.size≤146:=by rw [←qS4,ByteArray.size_append];omega
 have k5:S5.size≤147:=by rw [←qS5,ByteArray.size_append];omega
 have hc1_:word.size+spc.size≤maxLen:=by unfold maxLen;omega
 have hc2_:S1.size+aS.size≤maxLen:=by unfold maxLen;omega
 have hc3_:S2.size+spc.size≤maxLen:=by unfold maxLen;omega
 have hc4_:S3.size+bS.size≤maxLen:=by unfold maxLen;omega
 have hc5_:S4.size+nlS.size≤maxLen:=by unfold maxLen;omega
 have hw5:bs++S5.data.toList=bs++lineB word [a,b]:=by
   rw [←qS5,←qS4,←qS3,←qS2,←qS1,←qaS,←qbS]
   simp [lineB,numB,spc,nlS,numS]
 replace F:=F.add haS |>.add hbS |>.add hS1 |>.add hS2 |>.add hS3 |>.add hS4 |>.add hS5 |>.add hc1_ |>.add hc2_ |>.add hc3_ |>.add hc4_ |>.add hc5_ |>.add hw5
 refine rK [0,2,4] ?_
 refine wDe 10 [(4,[10900]),(9,[10900])] [[],[0],[],[2],[2,3],[3,2,4,0,1],[1,0,4,2,3,5],[],[7],[3,2,4,7,8],[8,7,9,5,3,2,4,0,1,6],[6,1,0,4,2,3,5,9,7,8,10],[10,8,7,9,5,3,2,4,0,1,6,11]] ?_
 refine dB [([7,8,9,12,13,14],[],[10900,10900]),([7,8,9,12,13,14],[true],[10900,10900]),([5,6,12,13],[false,false],[]),([5,6,12,13],[false,false,true],[])] 6 4 ?_
 refine dC [5,6,12,13] [false,false,true,true] [] [(10900,10900)] ?_
 refine cd (Itoa_ok ob a hn.1.1 hn.1.2) ?_
 refine dB [([12,13,14],[true,true,true,true,true],[10900]),([12,13,14],[true,true,true,true,true,true],[10900]),([5,6,7,8,9,10,11],[false,false,false,false,false,false,false],[10900]),([5,6,7,8,9,10,11],[false,false,false,false,false,false,false,true],[10900])] 1 9 ?_
 refine dC [5,6,10,11] [false,false,true,true,true,false,false,true,true] [] [(10900,10900)] ?_
 refine cd (Itoa_ok ob b hn.2.1 hn.2.2) ?_
 refine dD ?_
 refine oN 2 ?_
 refine WOps.callM rfl rfl rfl rfl [(10000,10000),(15000,15000)] rfl [15000] rfl (by decide) (by simp [haS,hbS,hS1,hS2,hS3,hS4,hS5,hc1_,hc2_,hc3_,hc4_,hc5_,hw5];first | rfl | exact ⟨rfl,rfl⟩) (by simp [haS,hbS,hS1,hS2,hS3,hS4,hS5,hc1_,hc2_,hc3_,hc4_,hc5_,hw5];rfl) ?_
 refine CallT.mkE (WriteString_ok u v bs S5 (by omega)) (fun z17 hz17=>⟨(by simp [haS,hbS,hS1,hS2,hS3,hS4,hS5,hc1_,hc2_,hc3_,hc4_,hc5_,hw5]), ?_⟩)
 refine ⟨(by simp [haS,hbS,hS1,hS2,hS3,hS4,hS5,hc1_,hc2_,hc3_,hc4_,hc5_,hw5]), ?_⟩
 refine WOps.norm (by simp [haS,hbS,hS1,hS2,hS3,hS4,hS5,hc1_,hc2_,hc3_,hc4_,hc5_,hw5];rfl) ?_
 refine WOps.endK ?_
 refine en false [] [(10000,10000),(15000,15000),(10900,10900)] ?_
 exact ⟨z17,rfl,by rw [←hw5],trivial⟩
abbrev trdW:ByteArray:=⟨#[116,114,97,100,101,114]⟩
abbrev likW:ByteArray:=⟨#[108,105,107,101]⟩
abbrev endW:ByteArray:=⟨#[101,110,100]⟩
def kL (x:Turn):List UInt8:=lineB likW [x.1,x.2]
def tL (p:Turn×List Turn):List UInt8:=lineB trdW [p.1.1,p.1.2]++p.2.flatMap kL
def wrT (ow:List Turn) (lk:List (List Turn)):List UInt8:=(ow.zip lk).flatMap tL++lineB endW [(ow.length:Int)]
def wrTX (ow:List Turn) (lk:List (List Turn)):List UInt8:=if checkT ow lk=0 then wrT ow lk else []
theorem all2 {p:Int→Prop}{a b:Int}(h1:p a) (h2:p b):∀n∈[a,b],p n:=by
  intro n hn;simp only [List.mem_cons,List.not_mem_nil,or_false] at hn;rcases hn with rfl | rfl <;> assumption
abbrev N64 (l:List Int):Prop:=∀n∈l, -9223372036854775808≤n∧n≤9223372036854775807
theorem turn_n64 {l:List Turn}(h:GoodTurns l):∀x∈l,N64 [x.1,x.2]:=fun x hx=>by
  have:=h.2 x hx
  unfold validT at this
  simp only [decide_eq_true_eq,Bool.and_eq_true] at this
  exact all2 (by omega) (by omega)
theorem Write_ok (ob:Lb) (ow:List Turn) (lk:List (List Turn)):ACalls Tryd.prog 7 [trade ow lk] [(10900,tabO ob)] (fun r o=>r = .tup [.val (.string ⟨(wrTX ow lk).toArray⟩),I (checkT ow lk)]∧o=[(10900,tabO ob)]):=by
 have F:=Fx.nil
 refine ent Tryd.func7 Tryd.ntmps7 Tryd.results7 ?_
 refine rK [1] ?_
 refine W.seqk fun K1 hK1=>?_
 refine W.seqR ?_
 refine oN 1 ?_
 refine oC [] ?_
 refine ct (W6.Check_ok ow lk) ?_
 refine oN 1 ?_
 refine oK [1,4] ?_
 refine rK [1,4,14] ?_
 refine it (fun hc1=>?_) (fun hc1=>?_)
 ·
  try simp at hc1
  replace F:=F.add hc1
  refine rK [2,3] ?_
  refine W.ret ?_
  refine tr ?_
  clear hK1 K1
  refine er false [] [(10900,10900)] ?_
  exact ⟨by rw [wrTX,if_neg hc1],rfl⟩
 ·
  try simp at hc1
  replace F:=F.add hc1
  refine W.skip ?_
  refine hK1 _ ?_
  clear hK1 K1
  have qv:=checkT_zero.1 hc1
  have hT0:checkT ow lk=0:=hc1
  have ho8:ow.length≤8:=qv.most
  have hlk:lk.length=ow.length:=qv.same
  have qO:∀x∈ow,N64 [x.1,x.2]:=turn_n64 qv.owns
  have qL:∀l∈lk,∀x∈l,N64 [x.1,x.2]:=fun l hl=>turn_n64 (qv.likes l hl).1
  have qZ:∀p∈ow.zip lk,p.1∈ow∧p.2∈lk:=fun p hp=>⟨(List.of_mem_zip hp).1,(List.of_mem_zip hp).2⟩
  obtain ⟨F1,qF1⟩:∃F,F=(ow.zip lk).flatMap tL:=⟨_,rfl⟩
  obtain ⟨A1,qA1⟩:∃A:Nat→List UInt8,A=fun i=>((ow.zip lk).take i).flatMap tL:=⟨_,rfl⟩
  have qzl:(ow.zip lk).length=ow.length:=by rw [List.length_zip];omega
  have hA10:A1 0=[]:=by rw [qA1];simp
  have hA1n:A1 ow.length=F1:=by rw [qA1,qF1];show ((ow.zip lk).take ow.length).flatMap tL=_;rw [←qzl,List.take_length]
  have qlK:∀l∈lk,∀j,((l.take j).flatMap kL).length≤1600:=fun l hl j=>by
    have h1:=flat_len (f:=kL) (k:=100) (l:=l.take j) fun m hm=>lineB_len (by decide) (by simp) (qL l hl m (List.mem_of_mem_take hm))
    have h2:(l.take j).length≤16:=by have:=(qv.likes l hl).2;rw [List.length_take];omega
    omega
  have qlT:∀p∈ow.zip lk,(tL p).length≤1700:=fun p hp=>by
    have h1:=lineB_len (w:=trdW) (by decide) (by simp) (qO p.1 (qZ p hp).1)
    have h2:=qlK p.2 (qZ p hp).2 p.2.length
    rw [List.take_length] at h2
    unfold tL
    rw [List.length_append]
    omega
  have ql1:∀i,(A1 i).length≤13600:=fun i=>by
    rw [qA1]
    have h1:=flat_len (f:=tL) (k:=1700) (l:=(ow.zip lk).take i) fun m hm=>qlT m (List.mem_of_mem_take hm)
    have h2:((ow.zip lk).take i).length≤8:=by rw [List.length_take];omega
    show (((ow.zip lk).take i).flatMap tL).length≤_
    omega
  have qlF1:F1.length≤13600:=by rw [←hA1n];exact ql1 _
  replace F:=F.add hT0 |>.add ho8 |>.add hlk |>.add hA10 |>.add hA1n
  refine W.seqR ?_
  refine WOps.allocB hΓ 40 9001 rfl rfl rfl rfl rfl (by rfl) (by simp [hc1,hT0,ho8,hlk,hA10,hA1n];all_goals rfl) ?_
  refine oK [1,5] ?_
  refine rK [1,5,6] ?_
  refine W.seqk fun K2 hK2=>?_
  refine rK [1,5,6,18,19,20] ?_
  refine W.block ?_
  refine lpa (α:=Value×Nat) [1,5,6,18,19] [8,10,27,33,40] [40,9001] (fun x=>[(20,I x.2)]) (fun x=>[(40,.cus (boxC 65 (decide (0<x.2)) x.1)),(9001,.cus (bufC 5 x.1 (A1 x.2)))]) (fun x=>x.2≤ow.length) (fun x=>ow.length-x.2) (.slice none 0 0,0) v0 ?_
  ·
   intro ⟨y,i⟩ hI0
   simp only [List.cons_append,List.nil_append]
   try dsimp only at hI0
   replace F:=F.add hI0
   refine rK [1,5,6,18,19,20,21] ?_
   refine W.seqk fun K3 hK3=>?_
   refine it (fun hc2=>?_) (fun hc2=>?_)
   ·
    try simp at hc2
    replace F:=F.add hc2
    refine W.skip ?_
    refine hK3 _ ?_
    clear hK3 K3
    refine W.seqk fun K4 hK4=>?_
    refine W.block ?_
    have hil:i<ow.length:=by omega
    have hkl:i<lk.length:=by omega
    obtain ⟨n1,n2,qx⟩:∃n1 n2,ow[i]=(n1,n2):=⟨_,_,rfl⟩
    have hx:=qx
    obtain ⟨kl,qk⟩:∃kl,lk[i]=kl:=⟨_,rfl⟩
    have hk0:=qk
    have qla:=List.getElem_mem hil
    rw [qx] at qla
    have qkm:=List.getElem_mem hkl
    rw [qk] at qkm
    have qn:N64 [n1,n2]:=qO _ qla
    have qs:=qL _ qkm
    have hk16:kl.length≤16:=(qv.likes kl qkm).2
    have qlw:=ql1 i
    have qlo1:=lineB_len (w:=trdW) (by decide) (by simp) qn
    have qst:=qlK _ qkm
    obtain ⟨B0,qB0⟩:∃B,B=A1 i++lineB trdW [n1,n2]:=⟨_,rfl⟩
    have hB0:=qB0.symm
    obtain ⟨A5,qA5⟩:∃A:Nat→List UInt8,A=fun j=>B0++(kl.take j).flatMap kL:=⟨_,rfl⟩
    have hA50:A5 0=B0:=by rw [qA5];simp
    have qlB:B0.length≤14000:=by rw [qB0,List.length_append];omega
    have ql5:∀j,(A5 j).length≤16000:=fun j=>by
      rw [qA5]
      show (B0++(kl.take j).flatMap kL).length≤_
      have:=qst j
      rw [List.length_append]
      omega
    have hAs:A1 (i+1)=A5 kl.length:=by
      rw [qA5,qB0,qA1]
      show ((ow.zip lk).take (i+1)).flatMap tL=((ow.zip lk).take i).flatMap tL++_++(kl.take kl.length).flatMap kL
      rw [flat_snoc (by omega:i<(ow.zip lk).length),List.getElem_zip,qx,qk,List.take_length]
      show ((ow.zip lk).take i).flatMap tL++(lineB trdW [n1,n2]++kl.flatMap kL)=_
      simp only [List.append_assoc]
    replace F:=F.add hil |>.add hkl |>.add hx |>.add hk0 |>.add hk16 |>.add hB0 |>.add hA50 |>.add hAs
    refine rK [1,5,6,7,8,18,19,20] ?_
    refine W.seqR ?_
    refine oN 2 ?_
    refine WOps.callM rfl rfl rfl rfl [(10000,40),(15000,9001),(10900,10900)] rfl [9001] rfl (by decide) (by simp [hc1,hT0,ho8,hlk,hA10,hA1n,hI0,hc2,hil,hkl,hx,hk0,hk16,hB0,hA50,hAs];first | rfl | exact ⟨rfl,rfl⟩) (by simp [hc1,hT0,ho8,hlk,hA10,hA1n,hI0,hc2,hil,hkl,hx,hk0,hk16,hB0,hA50,hAs];rfl) ?_
    refine CallT.mkE (lrow_ok ob (decide (0<i)) y (A1 i) trdW n1 n2 (by decide) (by omega) ⟨qn n1 (by simp),qn n2 (by simp)⟩) (fun z27 hz27=>⟨(by simp [hc1,hT0,ho8,hlk,hA10,hA1n,hI0,hc2,hil,hkl,hx,hk0,hk16,hB0,hA50,hAs]), ?_⟩)
    refine ⟨(by simp [hc1,hT0,ho8,hlk,hA10,hA1n,hI0,hc2,hil,hkl,hx,hk0,hk16,hB0,hA50,hAs]), ?_⟩
    refine WOps.norm (by simp [hc1,hT0,ho8,hlk,hA10,hA1n,hI0,hc2,hil,hkl,hx,hk0,hk16,hB0,hA50,hAs];rfl) ?_
    refine oK [1,5,6,7,18,19,20] ?_
    refine rK [1,5,6,18,19,20,32,33,34] ?_
    refine W.block ?_
    refine lpa (α:=Value×Nat) [1,5,6,18,19,20,32,33] [10,40] [40,9001] (fun x=>[(34,I x.2)]) (fun x=>[(40,.cus (boxC 65 true x.1)),(9001,.cus (bufC 5 x.1 (A5 x.2)))]) (fun x=>x.2≤kl.length) (fun x=>kl.length-x.2) (z27,0) v0 ?_
    ·
     intro ⟨y2,j⟩ hI1
     simp only [List.cons_append,List.nil_append]
     try dsimp only at hI1
     replace F:=F.add hI1
     refine rK [1,5,6,18,19,20,32,33,34,35] ?_
     refine W.seqk fun K5 hK5=>?_
     refine it (fun hc3=>?_) (fun hc3=>?_)
     ·
      try simp at hc3
      replace F:=F.add hc3
      refine W.skip ?_
      refine hK5 _ ?_
      clear hK5 K5
      refine W.seqk fun K6 hK6=>?_
      refine W.block ?_
      have hjl:j<kl.length:=by omega
      obtain ⟨m1,m2,qy⟩:∃m1 m2,kl[j]=(m1,m2):=⟨_,_,rfl⟩
      have hy:=qy
      have qm:=qs _ (List.getElem_mem hjl)
      rw [qy] at qm
      have qm:N64 [m1,m2]:=qm
      have qlv:=ql5 j
      have hBs:A5 (j+1)=A5 j++lineB likW [m1,m2]:=by
        rw [qA5]
        show B0++(kl.take (j+1)).flatMap kL=B0++(kl.take j).flatMap kL++_
        rw [flat_snoc hjl,qy,List.append_assoc];rfl
      replace F:=F.add hjl |>.add hy |>.add hBs
      refine rK [1,5,6,10,18,19,20,32,33,34] ?_
      refine W.region ?_
      refine oN 2 ?_
      refine WOps.callM rfl rfl rfl rfl [(10000,40),(15000,9001),(10900,10900)] rfl [9001] rfl (by decide) (by simp [hc1,hT0,ho8,hlk,hA10,hA1n,hI0,hc2,hil,hkl,hx,hk0,hk16,hB0,hA50,hAs,hI1,hc3,hjl,hy,hBs];first | rfl | exact ⟨rfl,rfl⟩) (by simp [hc1,hT0,ho8,hlk,hA10,hA1n,hI0,hc2,hil,hkl,hx,hk0,hk16,hB0,hA50,hAs,hI1,hc3,hjl,hy,hBs];rfl) ?_
      refine CallT.mkE (lrow_ok ob true y2 (A5 j) likW m1 m2 (by decide) (by omega) ⟨qm m1 (by simp),qm m2 (by simp)⟩) (fun z40 hz40=>⟨(by simp [hc1,hT0,ho8,hlk,hA10,hA1n,hI0,hc2,hil,hkl,hx,hk0,hk16,hB0,hA50,hAs,hI1,hc3,hjl,hy,hBs]), ?_⟩)
      refine ⟨(by simp [hc1,hT0,ho8,hlk,hA10,hA1n,hI0,hc2,hil,hkl,hx,hk0,hk16,hB0,hA50,hAs,hI1,hc3,hjl,hy,hBs]), ?_⟩
      refine WOps.norm (by simp [hc1,hT0,ho8,hlk,hA10,hA1n,hI0,hc2,hil,hkl,hx,hk0,hk16,hB0,hA50,hAs,hI1,hc3,hjl,hy,hBs];rfl) ?_
      refine WOps.endK ?_
      refine hK6 _ ?_
      clear hK6 K6
      refine rEw ?_
      refine ⟨(z40,j+1),lf0,v0,v0⟩
     ·
      try simp at hc3
      replace F:=F.add hc3
      refine W.exit ?_
      refine hK4 _ ?_
      clear hK5 K5 hK4 K4
      have hjn:j=kl.length:=by omega
      replace F:=F.add hjn
      refine rEw ?_
      refine ⟨(y2,i+1),lf0,v0,v0⟩
   ·
    try simp at hc2
    replace F:=F.add hc2
    refine W.exit ?_
    refine hK2 _ ?_
    clear hK3 K3 hK2 K2
    have hin:i=ow.length:=by omega
    obtain ⟨oS,qoS⟩:∃s,numS (ow.length:Int)=s:=⟨_,rfl⟩
    have hoS:=qoS
    have qil:=Lib.itoa_length_le (ow.length:Int) (by omega) (by omega)
    have qso:oS.size=(Lib.itoa (ow.length:Int)).length:=by rw [←qoS];exact List.size_toArray
    have q2:nlS.size=1:=rfl
    have q3:(⟨#[101,110,100,32]⟩:ByteArray).size=4:=rfl
    obtain ⟨S1,qS1⟩:∃s,(⟨#[101,110,100,32]⟩:ByteArray)++oS=s:=⟨_,rfl⟩
    obtain ⟨S2,qS2⟩:∃s,S1++nlS=s:=⟨_,rfl⟩
    have hS1:=qS1
    have hS2:=qS2
    have k1:S1.size≤30:=by rw [←qS1,ByteArray.size_append];omega
    have k2:S2.size≤31:=by rw [←qS2,ByteArray.size_append];omega
    have hc1_:(⟨#[101,110,100,32]⟩:ByteArray).size+oS.size≤maxLen:=by unfold maxLen;omega
    have hc2_:S1.size+nlS.size≤maxLen:=by unfold maxLen;omega
    have qfin:F1++S2.data.toList=wrT ow lk:=by
      rw [←qS2,←qS1,←qoS,qF1]
      simp [wrT,lineB,numB,nlS,numS]
    have qne:F1++S2.data.toList≠[]:=by rw [qfin];simp [wrT,lineB]
    replace F:=F.add hin |>.add hoS |>.add hS1 |>.add hS2 |>.add hc1_ |>.add hc2_
    refine W.seqR ?_
    refine oN 3 ?_
    refine oC [(10900,10900)] ?_
    refine ct (Itoa_ok ob (ow.length:Int) (by omega) (by omega)) ?_
    refine oN 2 ?_
    refine WOps.callM rfl rfl rfl rfl [(10000,40),(15000,9001)] rfl [9001] rfl (by decide) (by simp [hc1,hT0,ho8,hlk,hA10,hA1n,hI0,hc2,hin,hoS,hS1,hS2,hc1_,hc2_];first | rfl | exact ⟨rfl,rfl⟩) (by simp [hc1,hT0,ho8,hlk,hA10,hA1n,hI0,hc2,hin,hoS,hS1,hS2,hc1_,hc2_];rfl) ?_
    refine CallT.mkE (WriteString_ok (decide (0<ow.length)) y F1 S2 (by omega)) (fun z49 hz49=>⟨(by simp [hc1,hT0,ho8,hlk,hA10,hA1n,hI0,hc2,hin,hoS,hS1,hS2,hc1_,hc2_]), ?_⟩)
    refine ⟨(by simp [hc1,hT0,ho8,hlk,hA10,hA1n,hI0,hc2,hin,hoS,hS1,hS2,hc1_,hc2_]), ?_⟩
    refine WOps.norm (by simp [hc1,hT0,ho8,hlk,hA10,hA1n,hI0,hc2,hin,hoS,hS1,hS2,hc1_,hc2_];rfl) ?_
    refine oK [5] ?_
    refine W.seqR ?_
    refine WOps.callM rfl rfl rfl rfl [(10000,40),(15000,9001)] rfl [9001] rfl (by decide) (by simp [hc1,hT0,ho8,hlk,hA10,hA1n,hI0,hc2,hin,hoS,hS1,hS2,hc1_,hc2_];first | rfl | exact ⟨rfl,rfl⟩) (by simp [hc1,hT0,ho8,hlk,hA10,hA1n,hI0,hc2,hin,hoS,hS1,hS2,hc1_,hc2_];rfl) ?_
    refine CallT.mk (String_ok true z49 (F1++S2.data.toList) qne) (by simp [hc1,hT0,ho8,hlk,hA10,hA1n,hI0,hc2,hin,hoS,hS1,hS2,hc1_,hc2_]) ?_
    refine ⟨(by simp [hc1,hT0,ho8,hlk,hA10,hA1n,hI0,hc2,hin,hoS,hS1,hS2,hc1_,hc2_]), ?_⟩
    refine WOps.norm (by simp [hc1,hT0,ho8,hlk,hA10,hA1n,hI0,hc2,hin,hoS,hS1,hS2,hc1_,hc2_];rfl) ?_
    refine oN 2 ?_
    refine oK [2,3] ?_
    refine W.ret ?_
    refine er false [] [(10900,10900)] ?_
    exact ⟨by rw [wrTX,if_pos hT0,hT0,qfin],rfl⟩
end Go.Sim
