/- A ledger as the reference writes it; a byte of a text that is another one. -/
import Derived.Test.YtholkejjmookfaaGreatDoorIw
namespace Go.Sim
set_option maxHeartbeats 4000000
open Go.Proofs W6
set_option maxRecDepth 100000
set_option linter.unusedSimpArgs false
set_option linter.unusedVariables false
attribute [-simp] List.map_set List.map_take List.map_drop
theorem rrow_ok (ob:Lb) (word:ByteArray) (ns:List Int) (hw:word.size≤100) (hns:ns.length≤10) (hn64:N64 ns):ACalls Tryz.prog 35 [.val (.string word),ints ns] [(10900,tabO ob)] (fun r o=>r=txtA (lineB word ns)∧o=[(10900,tabO ob)]):=by
 have F:=Fx.nil
 refine ent Tryz.func35 Tryz.ntmps35 Tryz.results35 ?_
 obtain ⟨Wf,qWf⟩:∃Wf:Nat→List UInt8,Wf=fun i=>word.data.toList++numB (ns.take i):=⟨_,rfl⟩
 have hW0:word=ba (Wf 0):=by rw [qWf];simp [numB,ba_of]
 have qWl:∀i,(Wf i).length≤400:=fun i=>by
   rw [qWf]
   show (word.data.toList++numB (ns.take i)).length≤_
   rw [List.length_append]
   have h1:=numB_len (k:=21) (l:=ns.take i) fun x hx=>Lib.itoa_length_le x (hn64 x (List.mem_of_mem_take hx)).1 (hn64 x (List.mem_of_mem_take hx)).2
   have h2:(ns.take i).length≤10:=by rw [List.length_take];omega
   have h3:(ns.take i).length * 22≤10 * 22:=Nat.mul_le_mul_right _ h2
   have h4:word.data.toList.length=word.size:=Array.length_toList
   omega
 replace F:=F.add hW0
 refine rK [0,1] ?_
 refine W.seqk fun K1 hK1=>?_
 refine rK [0,1,5] ?_
 refine W.block ?_
 refine lpa (α:=Nat) [1] [8,18] [] (fun i=>[(5,I i),(0,txtA (Wf i))]) (fun i=>[]) (fun i=>i≤ns.length) (fun i=>ns.length-i) 0 v0 ?_
 ·
  intro i hI0
  simp only [List.cons_append,List.nil_append]
  try dsimp only at hI0
  replace F:=F.add hI0
  refine W.seqk fun K2 hK2=>?_
  refine rK [0,1,5,9] ?_
  refine it (fun hc1=>?_) (fun hc1=>?_)
  ·
   try simp at hc1
   replace F:=F.add hc1
   refine W.skip ?_
   refine hK2 _ ?_
   clear hK2 K2
   refine W.seqk fun K3 hK3=>?_
   refine W.block ?_
   have hil:i<ns.length:=by omega
   obtain ⟨n,qn⟩:∃n,ns[i]=n:=⟨_,rfl⟩
   have hnn:=qn
   have qb:=hn64 _ (List.getElem_mem hil)
   rw [qn] at qb
   have qil:=Lib.itoa_length_le n qb.1 qb.2
   have qlw:=qWl i
   have hk1:(Wf i).length+1≤maxLen:=by unfold maxLen;omega
   have hk2:(Wf i).length+1+(Lib.itoa n).length≤maxLen:=by unfold maxLen;omega
   have hWs:Wf i++32 :: Lib.itoa n=Wf (i+1):=by
     rw [qWf]
     show word.data.toList++numB (ns.take i)++32 :: Lib.itoa n=word.data.toList++numB (ns.take (i+1))
     rw [List.take_succ_eq_append_getElem hil,qn,numB_snoc,List.append_assoc];simp [spc,numS]
   replace F:=F.add hil |>.add hnn |>.add hk1 |>.add hk2 |>.add hWs
   refine W.region ?_
   refine oN 6 ?_
   refine oC [(10900,10900)] ?_
   refine ct (Itoa_ok ob n qb.1 qb.2) ?_
   refine oN 2 ?_
   refine WOps.endK ?_
   refine hK3 _ ?_
   clear hK3 K3
   refine rEw ?_
   refine ⟨i+1,lf0,v0,v0⟩
  ·
   try simp at hc1
   replace F:=F.add hc1
   refine W.exit ?_
   refine hK1 _ ?_
   clear hK2 K2 hK1 K1
   have hin:i=ns.length:=by omega
   have qlw:=qWl ns.length
   have hk1:(Wf ns.length).length+1≤maxLen:=by unfold maxLen;omega
   have hfin:Wf ns.length++[10]=lineB word ns:=by
     rw [qWf]
     show word.data.toList++numB (ns.take ns.length)++[10]=_
     rw [List.take_length,List.append_assoc];rfl
   replace F:=F.add hin |>.add hk1 |>.add hfin
   refine rK [4] ?_
   refine W.ret ?_
   refine er false [] [(10900,10900)] ?_
   exact ⟨by rw [←hW0],rfl⟩
theorem rWrite_ok (ob:Lb) (ow:List Turn) (lk:List (List Turn)):ACalls Tryz.prog 9 [trade ow lk] [(10900,tabO ob)] (fun r o=>r = .tup [txtA (wrTX ow lk),I (checkT ow lk)]∧o=[(10900,tabO ob)]):=by
 have F:=Fx.nil
 refine ent Tryz.func9 Tryz.ntmps9 Tryz.results9 ?_
 refine rK [1] ?_
 refine W.seqk fun K1 hK1=>?_
 refine W.seqR ?_
 refine oN 1 ?_
 refine oC [] ?_
 refine ct (W6.rCheck_ok ow lk) ?_
 refine oN 1 ?_
 refine oK [1,4] ?_
 refine rK [1,4,11] ?_
 refine it (fun hc1=>?_) (fun hc1=>?_)
 ·
  try simp at hc1
  replace F:=F.add hc1
  refine rK [2,3] ?_
  refine W.ret ?_
  refine tr ?_
  clear hK1 K1
  refine er false [] [(10900,10900)] ?_
  first
  | exact ⟨by rw [wrTX,if_pos hT0,hT0],rfl⟩
  | exact ⟨by rw [wrTX,if_neg hc1];rfl,rfl⟩
 ·
  try simp at hc1
  replace F:=F.add hc1
  refine W.skip ?_
  refine hK1 _ ?_
  clear hK1 K1
  have qv:=checkT_zero.1 hc1
  have hT0:checkT ow lk=0:=hc1
  have ho8:ow.length≤8:=qv.most
  have hlk:lk.length=ow.length:=qv.same
  have qO:∀x∈ow,N64 [x.1,x.2]:=turn_n64 qv.owns
  have qL:∀l∈lk,∀x∈l,N64 [x.1,x.2]:=fun l hl=>turn_n64 (qv.likes l hl).1
  have qZ:∀p∈ow.zip lk,p.1∈ow∧p.2∈lk:=fun p hp=>⟨(List.of_mem_zip hp).1,(List.of_mem_zip hp).2⟩
  obtain ⟨F1,qF1⟩:∃F,F=(ow.zip lk).flatMap tL:=⟨_,rfl⟩
  obtain ⟨A1,qA1⟩:∃A:Nat→List UInt8,A=fun i=>((ow.zip lk).take i).flatMap tL:=⟨_,rfl⟩
  have qzl:(ow.zip lk).length=ow.length:=by rw [List.length_zip];omega
  have hA10:A1 0=[]:=by rw [qA1];simp
  have hA1n:A1 ow.length=F1:=by rw [qA1,qF1];show ((ow.zip lk).take ow.length).flatMap tL=_;rw [←qzl,List.take_length]
  have qlK:∀l∈lk,∀j,((l.take j).flatMap kL).length≤1600:=fun l hl j=>by
    have h1:=flat_len (f:=kL) (k:=100) (l:=l.take j) fun m hm=>lineB_len (by decide) (by simp) (qL l hl m (List.mem_of_mem_take hm))
    have h2:(l.take j).length≤16:=by have:=(qv.likes l hl).2;rw [List.length_take];omega
    omega
  have qlT:∀p∈ow.zip lk,(tL p).length≤1700:=fun p hp=>by
    have h1:=lineB_len (w:=trdW) (by decide) (by simp) (qO p.1 (qZ p hp).1)
    have h2:=qlK p.2 (qZ p hp).2 p.2.length
    rw [List.take_length] at h2
    unfold tL
    rw [List.length_append]
    omega
  have ql1:∀i,(A1 i).length≤13600:=fun i=>by
    rw [qA1]
    have h1:=flat_len (f:=tL) (k:=1700) (l:=(ow.zip lk).take i) fun m hm=>qlT m (List.mem_of_mem_take hm)
    have h2:((ow.zip lk).take i).length≤8:=by rw [List.length_take];omega
    show (((ow.zip lk).take i).flatMap tL).length≤_
    omega
  have hba0:(⟨#[]⟩:ByteArray)=ba []:=rfl
  replace F:=F.add hT0 |>.add ho8 |>.add hlk |>.add hA10 |>.add hA1n |>.add hba0
  refine rK [1,5] ?_
  refine W.seqk fun K2 hK2=>?_
  refine rK [1,5,6] ?_
  refine W.block ?_
  refine lpa (α:=Nat) [1] [16,33,34,42,65,66] [] (fun i=>[(6,I i),(5,txtA (A1 i))]) (fun i=>[]) (fun i=>i≤ow.length) (fun i=>ow.length-i) 0 v0 ?_
  ·
   intro i hI0
   simp only [List.cons_append,List.nil_append]
   try dsimp only at hI0
   replace F:=F.add hI0
   refine W.seqk fun K3 hK3=>?_
   refine rK [1,5,6,17] ?_
   refine it (fun hc2=>?_) (fun hc2=>?_)
   ·
    try simp at hc2
    replace F:=F.add hc2
    refine W.skip ?_
    refine hK3 _ ?_
    clear hK3 K3
    refine W.seqk fun K4 hK4=>?_
    refine W.block ?_
    have hil:i<ow.length:=by omega
    have hkl:i<lk.length:=by omega
    obtain ⟨n1,n2,qx⟩:∃n1 n2,ow[i]=(n1,n2):=⟨_,_,rfl⟩
    have hx:=qx
    obtain ⟨kl,qk⟩:∃kl,lk[i]=kl:=⟨_,rfl⟩
    have hk0:=qk
    have qla:=List.getElem_mem hil
    rw [qx] at qla
    have qkm:=List.getElem_mem hkl
    rw [qk] at qkm
    have qn:N64 [n1,n2]:=qO _ qla
    have qs:=qL _ qkm
    have hk16:kl.length≤16:=(qv.likes kl qkm).2
    have qlw:=ql1 i
    have qlo1:=lineB_len (w:=trdW) (by decide) (by simp) qn
    have qst:=qlK _ qkm
    obtain ⟨B0,qB0⟩:∃B,A1 i++lineB trdW [n1,n2]=B:=⟨_,rfl⟩
    have hB0:=qB0
    have hcap:(A1 i).length+(lineB trdW [n1,n2]).length≤maxLen:=by unfold maxLen;omega
    obtain ⟨A5,qA5⟩:∃A:Nat→List UInt8,A=fun j=>B0++(kl.take j).flatMap kL:=⟨_,rfl⟩
    have hA50:A5 0=B0:=by rw [qA5];simp
    have qlB:B0.length≤14000:=by rw [←qB0,List.length_append];omega
    have ql5:∀j,(A5 j).length≤16000:=fun j=>by
      rw [qA5]
      show (B0++(kl.take j).flatMap kL).length≤_
      have:=qst j
      rw [List.length_append]
      omega
    have hAs:A1 (i+1)=A5 kl.length:=by
      rw [qA5,←qB0,qA1]
      show ((ow.zip lk).take (i+1)).flatMap tL=((ow.zip lk).take i).flatMap tL++_++(kl.take kl.length).flatMap kL
      rw [flat_snoc (by omega:i<(ow.zip lk).length),List.getElem_zip,qx,qk,List.take_length]
      show ((ow.zip lk).take i).flatMap tL++(lineB trdW [n1,n2]++kl.flatMap kL)=_
      simp only [List.append_assoc]
    replace F:=F.add hil |>.add hkl |>.add hx |>.add hk0 |>.add hk16 |>.add hB0 |>.add hcap |>.add hA50 |>.add hAs
    refine wD 15 [(14,[10900])] [[],[],[1],[],[3,1,2],[2,1,3,4],[4,3,1,2,5],[],[7],[],[9,7,8],[8,7,9,10],[10,9,7,8,11],[11,8,7,9,10,12,5,2,1,3,4,6],[6,4,3,1,2,5,12,10,9,7,8,11,13],[13,11,8,7,9,10,12,5,2,1,3,4,6,14,0],[0,14,6,4,3,1,2,5,12,10,9,7,8,11,13,15]] ?_
    refine dB [([21,22,23,24,25,26,27,28,29,30,31,32,33,34],[],[10900]),([20,23,27,28,29,30,31,32],[false],[]),([20,23,27,28,29,30,31,32],[false,true],[]),([20,21,22,27,28,29,30,31,32],[false,false,false],[]),([20,27,28,29,30,31,32],[false,true,true,true],[]),([20,27,28,29,30,31,32],[false,true,true,true,true],[]),([20,27,28,29,30,31,32],[false,true,true,true,true,true],[]),([20,21,22,23,24,25,26,29],[false,false,false,false,false,false,false],[]),([20,21,22,23,24,25,26,29],[false,false,false,false,false,false,false,true],[]),([20,21,22,23,24,25,26,27,28],[false,false,false,false,false,false,false,false,false],[]),([20,21,22,23,24,25,26],[false,false,false,false,false,false,false,true,true,true],[]),([20,21,22,23,24,25,26],[false,false,false,false,false,false,false,true,true,true,true],[]),([20,21,22,23,24,25,26],[false,false,false,false,false,false,false,true,true,true,true,true],[])] 2 13 ?_
    refine WDraw.bldI hΓ (viewB_eq (L:=[20]) (S:=[false,true,true,true,true,true,true,true,true,true,true,true,true]) (O:=[]) (by kernel_rfl) (by kernel_rfl) (by simp [hc1,hT0,ho8,hlk,hA10,hA1n,hba0,hI0,hc2,hil,hkl,hx,hk0,hk16,hB0,hcap,hA50,hAs];rfl)) (by first | rfl | simp) (by simp [hc1,hT0,ho8,hlk,hA10,hA1n,hba0,hI0,hc2,hil,hkl,hx,hk0,hk16,hB0,hcap,hA50,hAs];first | rfl | exact ⟨rfl,rfl⟩) (by simp [hc1,hT0,ho8,hlk,hA10,hA1n,hba0,hI0,hc2,hil,hkl,hx,hk0,hk16,hB0,hcap,hA50,hAs,imD];first | rfl | exact ⟨rfl,rfl⟩) (by first | rfl | simp) (by simp [hc1,hT0,ho8,hlk,hA10,hA1n,hba0,hI0,hc2,hil,hkl,hx,hk0,hk16,hB0,hcap,hA50,hAs];first | done | rfl) (by simp [hc1,hT0,ho8,hlk,hA10,hA1n,hba0,hI0,hc2,hil,hkl,hx,hk0,hk16,hB0,hcap,hA50,hAs];rfl) ?_
    refine dC [20] [false,true,true,true,true,true,true,true,true,true,true,true,true,true] [] [(10900,10900)] ?_
    refine cd (rrow_ok ob trdW [n1,n2] (by decide) (by simp) qn) ?_
    refine dD ?_
    refine oN 2 ?_
    refine oK [1,5,6] ?_
    refine rK [1,5,6,7] ?_
    refine W.block ?_
    refine lpa (α:=Nat) [1,6] [42,65,66] [] (fun j=>[(7,I j),(5,txtA (A5 j))]) (fun j=>[]) (fun j=>j≤kl.length) (fun j=>kl.length-j) 0 v0 ?_
    ·
     intro j hI1
     simp only [List.cons_append,List.nil_append]
     try dsimp only at hI1
     replace F:=F.add hI1
     refine W.seqk fun K5 hK5=>?_
     refine rK [1,5,6,7,43] ?_
     refine it (fun hc3=>?_) (fun hc3=>?_)
     ·
      try simp at hc3
      replace F:=F.add hc3
      refine W.skip ?_
      refine hK5 _ ?_
      clear hK5 K5
      refine W.seqk fun K6 hK6=>?_
      refine W.block ?_
      have hjl:j<kl.length:=by omega
      obtain ⟨m1,m2,qy⟩:∃m1 m2,kl[j]=(m1,m2):=⟨_,_,rfl⟩
      have hy:=qy
      have qm:=qs _ (List.getElem_mem hjl)
      rw [qy] at qm
      have qm:N64 [m1,m2]:=qm
      have qlv:=ql5 j
      have qlo2:=lineB_len (w:=likW) (by decide) (by simp) qm
      have hca2:(A5 j).length+(lineB likW [m1,m2]).length≤maxLen:=by unfold maxLen;omega
      have hBs:A5 j++lineB likW [m1,m2]=A5 (j+1):=by
        rw [qA5]
        show B0++(kl.take j).flatMap kL++_=B0++(kl.take (j+1)).flatMap kL
        rw [flat_snoc hjl,qy,List.append_assoc];rfl
      replace F:=F.add hjl |>.add hy |>.add hca2 |>.add hBs
      refine wDe 21 [(20,[10900])] [[],[],[1],[],[3,1,2],[2,1,3,4],[],[6,4,3,1,2,5],[5,2,1,3,4,6,7],[7,6,4,3,1,2,5,8],[],[10],[],[12,10,11],[11,10,12,13],[],[15,13,12,10,11,14],[14,11,10,12,13,15,16],[16,15,13,12,10,11,14,17],[17,14,11,10,12,13,15,16,18,8,5,2,1,3,4,6,7,9],[9,7,6,4,3,1,2,5,8,18,16,15,13,12,10,11,14,17,19],[19,17,14,11,10,12,13,15,16,18,8,5,2,1,3,4,6,7,9,20,0],[0,20,9,7,6,4,3,1,2,5,8,18,16,15,13,12,10,11,14,17,19,21]] ?_
      refine dB [([47,48,49,50,51,52,53,54,55,56,57,58,59,60,61,62,63,64,65,66],[],[10900]),([46,49,52,56,57,58,59,60,61,62,63,64],[false],[]),([46,49,52,56,57,58,59,60,61,62,63,64],[false,true],[]),([46,47,48,52,56,57,58,59,60,61,62,63,64],[false,false,false],[]),([46,52,56,57,58,59,60,61,62,63,64],[false,true,true,true],[]),([46,52,56,57,58,59,60,61,62,63,64],[false,true,true,true,true],[]),([46,47,48,49,50,51,56,57,58,59,60,61,62,63,64],[false,false,false,false,false,false],[]),([46,56,57,58,59,60,61,62,63,64],[false,true,true,true,true,true,true],[]),([46,56,57,58,59,60,61,62,63,64],[false,true,true,true,true,true,true,true],[]),([46,56,57,58,59,60,61,62,63,64],[false,true,true,true,true,true,true,true,true],[]),([46,47,48,49,50,51,52,53,54,55,58,61],[false,false,false,false,false,false,false,false,false,false],[]),([46,47,48,49,50,51,52,53,54,55,58,61],[false,false,false,false,false,false,false,false,false,false,true],[]),([46,47,48,49,50,51,52,53,54,55,56,57,61],[false,false,false,false,false,false,false,false,false,false,false,false],[]),([46,47,48,49,50,51,52,53,54,55,61],[false,false,false,false,false,false,false,false,false,false,true,true,true],[]),([46,47,48,49,50,51,52,53,54,55,61],[false,false,false,false,false,false,false,false,false,false,true,true,true,true],[]),([46,47,48,49,50,51,52,53,54,55,56,57,58,59,60],[false,false,false,false,false,false,false,false,false,false,false,false,false,false,false],[]),([46,47,48,49,50,51,52,53,54,55],[false,false,false,false,false,false,false,false,false,false,true,true,true,true,true,true],[]),([46,47,48,49,50,51,52,53,54,55],[false,false,false,false,false,false,false,false,false,false,true,true,true,true,true,true,true],[]),([46,47,48,49,50,51,52,53,54,55],[false,false,false,false,false,false,false,false,false,false,true,true,true,true,true,true,true,true],[])] 2 19 ?_
      refine WDraw.bldI hΓ (viewB_eq (L:=[46]) (S:=[false,true,true,true,true,true,true,true,true,true,true,true,true,true,true,true,true,true,true]) (O:=[]) (by kernel_rfl) (by kernel_rfl) (by simp [hc1,hT0,ho8,hlk,hA10,hA1n,hba0,hI0,hc2,hil,hkl,hx,hk0,hk16,hB0,hcap,hA50,hAs,hI1,hc3,hjl,hy,hca2,hBs];rfl)) (by first | rfl | simp) (by simp [hc1,hT0,ho8,hlk,hA10,hA1n,hba0,hI0,hc2,hil,hkl,hx,hk0,hk16,hB0,hcap,hA50,hAs,hI1,hc3,hjl,hy,hca2,hBs];first | rfl | exact ⟨rfl,rfl⟩) (by simp [hc1,hT0,ho8,hlk,hA10,hA1n,hba0,hI0,hc2,hil,hkl,hx,hk0,hk16,hB0,hcap,hA50,hAs,hI1,hc3,hjl,hy,hca2,hBs,imD];first | rfl | exact ⟨rfl,rfl⟩) (by first | rfl | simp) (by simp [hc1,hT0,ho8,hlk,hA10,hA1n,hba0,hI0,hc2,hil,hkl,hx,hk0,hk16,hB0,hcap,hA50,hAs,hI1,hc3,hjl,hy,hca2,hBs];first | done | rfl) (by simp [hc1,hT0,ho8,hlk,hA10,hA1n,hba0,hI0,hc2,hil,hkl,hx,hk0,hk16,hB0,hcap,hA50,hAs,hI1,hc3,hjl,hy,hca2,hBs];rfl) ?_
      refine dC [46] [false,true,true,true,true,true,true,true,true,true,true,true,true,true,true,true,true,true,true,true] [] [(10900,10900)] ?_
      refine cd (rrow_ok ob likW [m1,m2] (by decide) (by simp) qm) ?_
      refine dD ?_
      refine oN 2 ?_
      refine WOps.endK ?_
      refine hK6 _ ?_
      clear hK6 K6
      have hwj:IntKind.i64.wrap ((j:Int)+1)=(j:Int)+1:=wrap_i64 (by omega) (by omega)
      replace F:=F.add hwj
      refine rE ?_
      refine ⟨j+1,lf0,v0,v0⟩
     ·
      try simp at hc3
      replace F:=F.add hc3
      refine W.exit ?_
      refine hK4 _ ?_
      clear hK5 K5 hK4 K4
      have hjn:j=kl.length:=by omega
      replace F:=F.add hjn
      refine rEw ?_
      refine ⟨i+1,lf0,v0,v0⟩
   ·
    try simp at hc2
    replace F:=F.add hc2
    refine W.exit ?_
    refine hK2 _ ?_
    clear hK3 K3 hK2 K2
    have hin:i=ow.length:=by omega
    have qdn:N64 [(ow.length:Int)]:=fun n hn=>by
      have:n=(ow.length:Int):=by simpa using hn
      omega
    have qlo3:=lineB_len (w:=endW) (by decide) (by simp) qdn
    have qlw:=ql1 ow.length
    rw [hA1n] at qlw
    have hca3:F1.length+(lineB endW [(ow.length:Int)]).length≤maxLen:=by unfold maxLen;omega
    have hfin:F1++lineB endW [(ow.length:Int)]=wrT ow lk:=by rw [qF1];rfl
    replace F:=F.add hin |>.add hca3 |>.add hfin
    refine W.seqR ?_
    refine oN 5 ?_
    refine fz 576 ?_
    refine oC [(10900,10900)] ?_
    refine ct (rrow_ok ob endW [(ow.length:Int)] (by decide) (by simp) qdn) ?_
    refine oN 3 ?_
    refine oK [2,3] ?_
    refine W.ret ?_
    refine er false [] [(10900,10900)] ?_
    first
    | exact ⟨by rw [wrTX,if_pos hT0,hT0],rfl⟩
    | exact ⟨by rw [wrTX,if_neg hc1];rfl,rfl⟩
end Go.Sim
