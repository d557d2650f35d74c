/- SwapLedgers. -/
import Derived.Test.YtholkejjmookfaaGreatDoorIj
import Derived.Test.YtholkejjmookfaaGreatDoorIy
import Derived.Test.YtholkejjmookfaaGreatDoorIt
import Derived.Test.YtholkejjmookfaaGreatDoorIz
import Derived.Test.YtholkejjmookfaaGreatDoorIq
import Derived.Test.YtholkejjmookfaaGreatDoorVl
import Derived.Test.YtholkejjmookfaaGreatDoorVp
namespace Go.Sim
open Go.Proofs W6
set_option maxRecDepth 100000
set_option linter.unusedSimpArgs false
set_option linter.unusedVariables false
attribute [-simp] List.map_set List.map_take List.map_drop
theorem wrT_len {ow:List Turn}{lk:List (List Turn)}(qv:ValidT ow lk):(wrT ow lk).length≤20000:=by
  have ho8:ow.length≤8:=qv.most
  have qO:∀x∈ow,N64 [x.1,x.2]:=turn_n64 qv.owns
  have qL:∀l∈lk,∀x∈l,N64 [x.1,x.2]:=fun l hl=>turn_n64 (qv.likes l hl).1
  have qZ:∀p∈ow.zip lk,p.1∈ow∧p.2∈lk:=fun p hp=>⟨(List.of_mem_zip hp).1,(List.of_mem_zip hp).2⟩
  have qlK:∀l∈lk,(l.flatMap kL).length≤1600:=fun l hl=>by
    have h1:=flat_len (f:=kL) (k:=100) (l:=l) fun m hm=>lineB_len (by decide) (by simp) (qL l hl m hm)
    have h2:l.length≤16:=(qv.likes l hl).2
    omega
  have qlT:∀p∈ow.zip lk,(tL p).length≤1700:=fun p hp=>by
    have h1:=lineB_len (w:=trdW) (by decide) (by simp) (qO p.1 (qZ p hp).1)
    have h2:=qlK p.2 (qZ p hp).2
    unfold tL
    rw [List.length_append]
    omega
  have h1:=flat_len (f:=tL) (k:=1700) (l:=ow.zip lk) fun m hm=>qlT m hm
  have h2:(ow.zip lk).length≤8:=by rw [List.length_zip];omega
  have h3:=lineB_len (w:=endW) (ns:=[(ow.length:Int)]) (by decide) (by simp) (by intro n hn;simp at hn;omega)
  unfold wrT
  rw [List.length_append]
  omega
theorem wrTX_len (ow:List Turn) (lk:List (List Turn)):(wrTX ow lk).length≤20000:=by
  unfold wrTX
  split
  · exact wrT_len (checkT_zero.1 (by assumption))
  · simp
theorem Write_t (ob:Lb) (ow:List Turn) (lk:List (List Turn)):ACalls Tryz.prog 8 [trade ow lk] [(10900,tabO ob)] (fun r o=>r = .tup [txtA (wrTX ow lk),I (checkT ow lk)]∧o=[(10900,tabO ob)]):=Write_ok ob ow lk
def trd (p:List Turn×List (List Turn)):AV:=trade p.1 p.2
@[simp] theorem trd_def (p:List Turn×List (List Turn)):trd p=trade p.1 p.2:=rfl
set_option maxHeartbeats 4000000 in
theorem SwapLedgers_ok (ob:Lb) (ow:List Turn) (lk:List (List Turn)) (text:List UInt8) (nums:List Int) (at_ how:Int) (by_:UInt8):ACalls Tryz.prog 3 [trade ow lk,txtA text,ints nums,I at_,I how,.val (.int .u8 (by_.toNat:Int))] [(10900,tabO ob)] (fun r o=>r=B true∧o=[(10900,tabO ob)]):=by
 have F:=Fx.nil
 refine ent Tryz.func3 Tryz.ntmps3 Tryz.results3 ?_
 refine rK [1,2,3,4,5,6] ?_
 refine W.seqk fun K1 hK1=>?_
 by_cases hw:wideT ow lk=true
 ·
  replace F:=F.add hw
  refine W.seqR ?_
  refine oN 1 ?_
  refine oC [] ?_
  refine ct (W6.wide_ok _ _) ?_
  refine oN 1 ?_
  refine gF ?_
  refine gF ?_
  refine gF ?_
  refine gF ?_
  refine gF ?_
  refine gF ?_
  refine gF ?_
  refine gF ?_
  refine oN 1 ?_
  refine oK [1,2,3,4,5,6,38] ?_
  refine cT ?_
  refine W.seqR ?_
  refine oC [] ?_
  refine ct (W6.awake_ok) ?_
  refine oN 1 ?_
  refine oK [12] ?_
  refine W.ret ?_
  refine tr ?_
  clear hK1 K1
  exact er0 false [] [(10900,10900)]
 ·
  replace F:=F.add hw
  have hw2:wideT ow lk=false:=by simpa using hw
  replace F:=F.add hw2
  by_cases h15:1500<text.length
  ·
   replace F:=F.add h15
   have hi15:(1500:Int)<text.length:=by omega
   replace F:=F.add hi15
   by_cases h30:text.length≤3000
   ·
    replace F:=F.add h30
    have hi30:(text.length:Int)≤3000:=by omega
    replace F:=F.add hi30
    refine W.seqR ?_
    refine oN 1 ?_
    refine oC [] ?_
    refine ct (W6.wide_ok _ _) ?_
    refine oN 1 ?_
    refine gT ?_
    refine gT ?_
    refine gT ?_
    refine gT ?_
    refine gT ?_
    refine gT ?_
    refine gT ?_
    refine gT ?_
    refine oN 1 ?_
    refine oK [1,2,3,4,5,6,38] ?_
    refine cT ?_
    refine W.seqR ?_
    refine oC [] ?_
    refine ct (W6.awake_ok) ?_
    refine oN 1 ?_
    refine oK [12] ?_
    refine W.ret ?_
    refine tr ?_
    clear hK1 K1
    exact er0 false [] [(10900,10900)]
   ·
    replace F:=F.add h30
    have hi30:¬(text.length:Int)≤3000:=by omega
    replace F:=F.add hi30
    refine W.seqR ?_
    refine oN 1 ?_
    refine oC [] ?_
    refine ct (W6.wide_ok _ _) ?_
    refine oN 1 ?_
    refine gT ?_
    refine gT ?_
    refine gT ?_
    refine gT ?_
    refine gT ?_
    refine gT ?_
    refine gT ?_
    refine gT ?_
    refine oN 1 ?_
    refine oK [1,2,3,4,5,6,38] ?_
    refine cF ?_
    refine W.skip ?_
    refine hK1 _ ?_
    clear hK1 K1
    refine W.drawXT hm 8 3 4 [(3,[336])] (deps:=[[],[],[1],[1,2],[2,1,3,0],[],[5],[0,3,1,2,4],[4,2,1,3,0,7,5,6]]) (by rfl) rfl (by rfl) ?_
    refine dB [([41,42,43,45,46],[],[336]),([40,45,46],[false],[])] 1 2 ?_
    refine dC [40,45,46] [false,true] [] [] ?_
    refine cd (W6.DieOf_ok _) ?_
    refine WDraw.anyC (viewB_eq (L:=[40,45,46]) (S:=[false,true,true]) (O:=[]) (by kernel_rfl) (by kernel_rfl) (by simp [hw,hw2,h15,hi15,h30,hi30];rfl)) rfl rfl rfl [(10000,336)] rfl (by simp [hw,hw2,h15,hi15,h30,hi30];first | rfl | exact ⟨rfl,rfl⟩) (by simp [hw,hw2,h15,hi15,h30,hi30];rfl) rfl rfl (.inr (by simp)) [⟨none,.dead,[]⟩,⟨some 45,txtA text,[]⟩,⟨some 46,.own 368 0 1,[(368,.row true 9 1 [txtA text])]⟩,⟨none,.dead,[]⟩] ?_
    refine AnyC.mk (TradeOf_imm _ 6 (by omega)) ⟨([],[],0),(show GoodTrade [] [] 6 from ⟨by simp,rfl,GoodTurns.nil,by simp⟩)⟩ (fun z43 hz43=>⟨(by simp [hw,hw2,h15,hi15,h30,hi30]),(by simp [hw,hw2,h15,hi15,h30,hi30]),_,(by simp [hw,hw2,h15,hi15,h30,hi30];rfl), ?_⟩)
    obtain ⟨⟨zo,zl,zf⟩,hz⟩:∃z:List Turn×List (List Turn)×Int,z=z43:=⟨z43,rfl⟩
    subst hz
    refine dB [([45,46],[true,true,true,true],[]),([40,41,42,43,44,13],[false,false,false,false,false],[336]),([40,41,42,43,44,13],[false,false,false,false,false,true],[336]),([45,46],[true,true,true,true,true,false,false],[])] 0 8 ?_
    refine WDraw.doneX (sameX.co (.inl (by kernel_rfl)) (sameX.co (.inr (by simp [hw,hw2,h15,hi15,h30,hi30];first | done | rfl)) (sameX.co (.inr (by simp [hw,hw2,h15,hi15,h30,hi30];first | done | rfl)) (sameX.co (.inl (by kernel_rfl)) sameX.ni)))) (by simp [hw,hw2,h15,hi15,h30,hi30];rfl) ?_
    refine oN 1 ?_
    refine oK [3,4,5,13,14] ?_
    refine W.seqk fun K2 hK2=>?_
    obtain ⟨TS,qTS⟩:∃L:List (List Turn×List (List Turn)),L=[(ow,lk),(zo,zl)]:=⟨_,rfl⟩
    have hTS:[trade ow lk,trade zo zl]=TS.map trd:=by rw [qTS];rfl
    have hTSl:TS.length=2:=by rw [qTS];rfl
    have hTk:List.take 2 (TS.map trd)=TS.map trd:=List.take_of_length_le (by simp [hTSl])
    replace F:=F.add hTS |>.add hTSl |>.add hTk
    refine W.weaken (Le.freeze (id:=352) (by simp [hw,hw2,h15,hi15,h30,hi30,hTS,hTSl,hTk];rfl)) ?_
    refine rK [3,4,5,13,14,15] ?_
    refine W.block ?_
    refine lpa (α:=List (List UInt8)×Nat) [3,4,5,13] [49,58,66,79,80] [368,336] (fun x=>[(15,I x.2),(14,.own 368 0 x.1.length)]) (fun x=>[(368,.row true 9 1 (x.1.map txtA)),(336,W6.die zf)]) (fun x=>x.2≤2∧x.1.length=x.2+1∧∀y∈x.1.drop 1,y.length≤20000) (fun x=>2-x.2) ([text],0) v0 ?_
    ·
     intro ⟨L,i⟩ hI0
     simp only [List.cons_append,List.nil_append]
     try dsimp only at hI0
     obtain ⟨hi,hL,hLy⟩:=hI0
     replace F:=F.add hi |>.add hL
     refine W.seqk fun K3 hK3=>?_
     refine rK [3,4,5,13,14,15,50] ?_
     refine it (fun hc4=>?_) (fun hc4=>?_)
     ·
      try simp at hc4
      replace F:=F.add hc4
      refine W.skip ?_
      refine hK3 _ ?_
      clear hK3 K3
      refine W.seqk fun K4 hK4=>?_
      refine W.block ?_
      have hi2:i<TS.length:=by omega
      obtain ⟨p,qp⟩:∃p,TS[i]'hi2=p:=⟨_,rfl⟩
      have hp:=qp
      have hpo:TS[i]?=some p:=by rw [List.getElem?_eq_getElem hi2,qp]
      replace F:=F.add hi2 |>.add hp |>.add hpo
      refine W.seqR ?_
      refine oN 4 ?_
      refine oC [(10900,10900)] ?_
      refine ct (Write_t ob p.1 p.2) ?_
      refine oN 5 ?_
      refine oK [3,4,5,13,14,15,16,17] ?_
      refine W.seqR ?_
      refine oN 4 ?_
      refine oC [(10900,10900)] ?_
      refine ct (rWrite_ok ob p.1 p.2) ?_
      refine oN 5 ?_
      refine oK [3,4,5,13,14,15,16,17,18,19] ?_
      refine W.seqk fun K5 hK5=>?_
      refine W.seqR ?_
      refine oN 4 ?_
      refine gT ?_
      refine gT ?_
      refine gT ?_
      refine oN 1 ?_
      refine oK [3,4,5,13,14,15,18,76] ?_
      refine cF ?_
      refine W.skip ?_
      refine hK5 _ ?_
      clear hK5 K5
      refine rEw ?_
      refine hK4 _ ?_
      clear hK4 K4
      refine rEw ?_
      refine ⟨(L++[wrTX p.1 p.2],i+1),lf0, ?_,v0⟩
      ·
       refine ⟨by show i+1≤2;omega,by show (L++[_]).length=i+1+1;simp [hL],fun y hy=>?_⟩
       have hy2:y∈L.drop 1++[wrTX p.1 p.2]:=by
         have e:(L++[wrTX p.1 p.2]).drop 1=L.drop 1++[wrTX p.1 p.2]:=List.drop_append_of_le_length (by omega)
         rw [←e];exact hy
       rcases List.mem_append.1 hy2 with h | h
       · exact hLy y h
       · simp at h;subst h;exact wrTX_len _ _
     ·
      try simp at hc4
      replace F:=F.add hc4
      refine W.exit ?_
      refine hK2 _ ?_
      clear hK3 K3 hK2 K2
      have hi2:i=2:=by omega
      have hL3:L.length=3:=by omega
      obtain ⟨s,qs⟩:∃s,L[2]'(by omega)=s:=⟨_,rfl⟩
      have hs:=qs
      have qsl:s.length≤20000:=hLy s (by rw [←qs];exact List.mem_iff_getElem.2 ⟨1,by simp;omega,by simp⟩)
      replace F:=F.add hi2 |>.add hL3 |>.add hs
      refine W.seqR ?_
      refine oN 7 ?_
      refine oC [] ?_
      refine ct (Mar_ok s at_ how by_ (by omega)) ?_
      refine oNw 3 ?_
      refine oK [14] ?_
      refine W.seqk fun K6 hK6=>?_
      obtain ⟨M,qM⟩:∃M,L++[marL s at_ how by_]=M:=⟨_,rfl⟩
      have hM:L.map txtA++[txtA (marL s at_ how by_)]=M.map txtA:=by rw [←qM];simp
      have hMl:M.length=4:=by rw [←qM];simp [hL3]
      replace F:=F.add hM |>.add hMl
      refine rK [14,20] ?_
      refine W.block ?_
      refine lpa (α:=Nat) [14] [21,24,93,102,111,126] [336] (fun i=>[(20,I i)]) (fun i=>[(336,W6.die zf)]) (fun i=>i≤4) (fun i=>4-i) 0 v0 ?_
      ·
       intro i hI1
       simp only [List.cons_append,List.nil_append]
       try dsimp only at hI1
       replace F:=F.add hI1
       refine W.seqk fun K7 hK7=>?_
       refine rK [14,20,94] ?_
       refine it (fun hc6=>?_) (fun hc6=>?_)
       ·
        try simp at hc6
        replace F:=F.add hc6
        refine W.skip ?_
        refine hK7 _ ?_
        clear hK7 K7
        refine W.seqk fun K8 hK8=>?_
        refine W.block ?_
        have hi4:i<M.length:=by omega
        obtain ⟨t,qt⟩:∃t,M[i]'hi4=t:=⟨_,rfl⟩
        have ht:=qt
        have hto:M[i]?=some t:=by rw [List.getElem?_eq_getElem hi4,qt]
        replace F:=F.add hi4 |>.add ht |>.add hto
        refine W.seqR ?_
        refine oN 4 ?_
        refine oC [(10900,10900)] ?_
        refine ct (Read_ok ob t) ?_
        refine oN 8 ?_
        refine oK [14,20,21,22,23] ?_
        refine W.seqR ?_
        refine oN 4 ?_
        refine oC [] ?_
        refine ct (rRead_ok t) ?_
        refine oN 8 ?_
        refine oK [14,20,21,22,23,24,25,26] ?_
        refine W.seqR ?_
        refine oN 4 ?_
        refine gT ?_
        refine gT ?_
        refine gT ?_
        refine oN 2 ?_
        refine gT ?_
        refine gT ?_
        refine gC [] ?_
        refine ct (W6.SameTrades_ok (rd6 t).1 (rd6 t).1 (rd6 t).2.1 (rd6 t).2.1) ?_
        refine gT ?_
        refine oN 1 ?_
        refine oK [14,20,128] ?_
        refine cF ?_
        refine W.skip ?_
        refine hK8 _ ?_
        clear hK8 K8
        refine rEw ?_
        refine ⟨i+1,lf0,v0,v0⟩
       ·
        try simp at hc6
        replace F:=F.add hc6
        refine W.exit ?_
        refine hK6 _ ?_
        clear hK7 K7 hK6 K6
        refine W.seqR ?_
        refine oC [] ?_
        refine ct (W6.awake_ok) ?_
        refine oN 1 ?_
        refine oK [12] ?_
        refine W.ret ?_
        exact er0 false [] [(10900,10900)]
  ·
   replace F:=F.add h15
   have hi15:¬(1500:Int)<text.length:=by omega
   replace F:=F.add hi15
   refine W.seqR ?_
   refine oN 1 ?_
   refine oC [] ?_
   refine ct (W6.wide_ok _ _) ?_
   refine oN 1 ?_
   refine gT ?_
   refine gT ?_
   refine gT ?_
   refine gT ?_
   refine gF ?_
   refine gF ?_
   refine gF ?_
   refine gT ?_
   refine oN 1 ?_
   refine oK [1,2,3,4,5,6,38] ?_
   refine cF ?_
   refine W.skip ?_
   refine hK1 _ ?_
   clear hK1 K1
   refine W.drawXT hm 8 3 4 [(3,[336])] (deps:=[[],[],[1],[1,2],[2,1,3,0],[],[5],[0,3,1,2,4],[4,2,1,3,0,7,5,6]]) (by rfl) rfl (by rfl) ?_
   refine dB [([41,42,43,45,46],[],[336]),([40,45,46],[false],[])] 1 2 ?_
   refine dC [40,45,46] [false,true] [] [] ?_
   refine cd (W6.DieOf_ok _) ?_
   refine WDraw.anyC (viewB_eq (L:=[40,45,46]) (S:=[false,true,true]) (O:=[]) (by kernel_rfl) (by kernel_rfl) (by simp [hw,hw2,h15,hi15];rfl)) rfl rfl rfl [(10000,336)] rfl (by simp [hw,hw2,h15,hi15];first | rfl | exact ⟨rfl,rfl⟩) (by simp [hw,hw2,h15,hi15];rfl) rfl rfl (.inr (by simp)) [⟨none,.dead,[]⟩,⟨some 45,txtA text,[]⟩,⟨some 46,.own 368 0 1,[(368,.row true 9 1 [txtA text])]⟩,⟨none,.dead,[]⟩] ?_
   refine AnyC.mk (TradeOf_imm _ 6 (by omega)) ⟨([],[],0),(show GoodTrade [] [] 6 from ⟨by simp,rfl,GoodTurns.nil,by simp⟩)⟩ (fun z43 hz43=>⟨(by simp [hw,hw2,h15,hi15]),(by simp [hw,hw2,h15,hi15]),_,(by simp [hw,hw2,h15,hi15];rfl), ?_⟩)
   obtain ⟨⟨zo,zl,zf⟩,hz⟩:∃z:List Turn×List (List Turn)×Int,z=z43:=⟨z43,rfl⟩
   subst hz
   refine dB [([45,46],[true,true,true,true],[]),([40,41,42,43,44,13],[false,false,false,false,false],[336]),([40,41,42,43,44,13],[false,false,false,false,false,true],[336]),([45,46],[true,true,true,true,true,false,false],[])] 0 8 ?_
   refine WDraw.doneX (sameX.co (.inl (by kernel_rfl)) (sameX.co (.inr (by simp [hw,hw2,h15,hi15];first | done | rfl)) (sameX.co (.inr (by simp [hw,hw2,h15,hi15];first | done | rfl)) (sameX.co (.inl (by kernel_rfl)) sameX.ni)))) (by simp [hw,hw2,h15,hi15];rfl) ?_
   refine oN 1 ?_
   refine oK [3,4,5,13,14] ?_
   refine W.seqk fun K9 hK9=>?_
   obtain ⟨TS,qTS⟩:∃L:List (List Turn×List (List Turn)),L=[(ow,lk),(zo,zl)]:=⟨_,rfl⟩
   have hTS:[trade ow lk,trade zo zl]=TS.map trd:=by rw [qTS];rfl
   have hTSl:TS.length=2:=by rw [qTS];rfl
   have hTk:List.take 2 (TS.map trd)=TS.map trd:=List.take_of_length_le (by simp [hTSl])
   replace F:=F.add hTS |>.add hTSl |>.add hTk
   refine W.weaken (Le.freeze (id:=352) (by simp [hw,hw2,h15,hi15,hTS,hTSl,hTk];rfl)) ?_
   refine rK [3,4,5,13,14,15] ?_
   refine W.block ?_
   refine lpa (α:=List (List UInt8)×Nat) [3,4,5,13] [49,58,66,79,80] [368,336] (fun x=>[(15,I x.2),(14,.own 368 0 x.1.length)]) (fun x=>[(368,.row true 9 1 (x.1.map txtA)),(336,W6.die zf)]) (fun x=>x.2≤2∧x.1.length=x.2+1∧∀y∈x.1.drop 1,y.length≤20000) (fun x=>2-x.2) ([text],0) v0 ?_
   ·
    intro ⟨L,i⟩ hI0
    simp only [List.cons_append,List.nil_append]
    try dsimp only at hI0
    obtain ⟨hi,hL,hLy⟩:=hI0
    replace F:=F.add hi |>.add hL
    refine W.seqk fun K10 hK10=>?_
    refine rK [3,4,5,13,14,15,50] ?_
    refine it (fun hc9=>?_) (fun hc9=>?_)
    ·
     try simp at hc9
     replace F:=F.add hc9
     refine W.skip ?_
     refine hK10 _ ?_
     clear hK10 K10
     refine W.seqk fun K11 hK11=>?_
     refine W.block ?_
     have hi2:i<TS.length:=by omega
     obtain ⟨p,qp⟩:∃p,TS[i]'hi2=p:=⟨_,rfl⟩
     have hp:=qp
     have hpo:TS[i]?=some p:=by rw [List.getElem?_eq_getElem hi2,qp]
     replace F:=F.add hi2 |>.add hp |>.add hpo
     refine W.seqR ?_
     refine oN 4 ?_
     refine oC [(10900,10900)] ?_
     refine ct (Write_t ob p.1 p.2) ?_
     refine oN 5 ?_
     refine oK [3,4,5,13,14,15,16,17] ?_
     refine W.seqR ?_
     refine oN 4 ?_
     refine oC [(10900,10900)] ?_
     refine ct (rWrite_ok ob p.1 p.2) ?_
     refine oN 5 ?_
     refine oK [3,4,5,13,14,15,16,17,18,19] ?_
     refine W.seqk fun K12 hK12=>?_
     refine W.seqR ?_
     refine oN 4 ?_
     refine gT ?_
     refine gT ?_
     refine gT ?_
     refine oN 1 ?_
     refine oK [3,4,5,13,14,15,18,76] ?_
     refine cF ?_
     refine W.skip ?_
     refine hK12 _ ?_
     clear hK12 K12
     refine rEw ?_
     refine hK11 _ ?_
     clear hK11 K11
     refine rEw ?_
     refine ⟨(L++[wrTX p.1 p.2],i+1),lf0, ?_,v0⟩
     ·
      refine ⟨by show i+1≤2;omega,by show (L++[_]).length=i+1+1;simp [hL],fun y hy=>?_⟩
      have hy2:y∈L.drop 1++[wrTX p.1 p.2]:=by
        have e:(L++[wrTX p.1 p.2]).drop 1=L.drop 1++[wrTX p.1 p.2]:=List.drop_append_of_le_length (by omega)
        rw [←e];exact hy
      rcases List.mem_append.1 hy2 with h | h
      · exact hLy y h
      · simp at h;subst h;exact wrTX_len _ _
    ·
     try simp at hc9
     replace F:=F.add hc9
     refine W.exit ?_
     refine hK9 _ ?_
     clear hK10 K10 hK9 K9
     have hi2:i=2:=by omega
     have hL3:L.length=3:=by omega
     obtain ⟨s,qs⟩:∃s,L[2]'(by omega)=s:=⟨_,rfl⟩
     have hs:=qs
     have qsl:s.length≤20000:=hLy s (by rw [←qs];exact List.mem_iff_getElem.2 ⟨1,by simp;omega,by simp⟩)
     replace F:=F.add hi2 |>.add hL3 |>.add hs
     refine W.seqR ?_
     refine oN 7 ?_
     refine oC [] ?_
     refine ct (Mar_ok s at_ how by_ (by omega)) ?_
     refine oNw 3 ?_
     refine oK [14] ?_
     refine W.seqk fun K13 hK13=>?_
     obtain ⟨M,qM⟩:∃M,L++[marL s at_ how by_]=M:=⟨_,rfl⟩
     have hM:L.map txtA++[txtA (marL s at_ how by_)]=M.map txtA:=by rw [←qM];simp
     have hMl:M.length=4:=by rw [←qM];simp [hL3]
     replace F:=F.add hM |>.add hMl
     refine rK [14,20] ?_
     refine W.block ?_
     refine lpa (α:=Nat) [14] [21,24,93,102,111,126] [336] (fun i=>[(20,I i)]) (fun i=>[(336,W6.die zf)]) (fun i=>i≤4) (fun i=>4-i) 0 v0 ?_
     ·
      intro i hI1
      simp only [List.cons_append,List.nil_append]
      try dsimp only at hI1
      replace F:=F.add hI1
      refine W.seqk fun K14 hK14=>?_
      refine rK [14,20,94] ?_
      refine it (fun hc11=>?_) (fun hc11=>?_)
      ·
       try simp at hc11
       replace F:=F.add hc11
       refine W.skip ?_
       refine hK14 _ ?_
       clear hK14 K14
       refine W.seqk fun K15 hK15=>?_
       refine W.block ?_
       have hi4:i<M.length:=by omega
       obtain ⟨t,qt⟩:∃t,M[i]'hi4=t:=⟨_,rfl⟩
       have ht:=qt
       have hto:M[i]?=some t:=by rw [List.getElem?_eq_getElem hi4,qt]
       replace F:=F.add hi4 |>.add ht |>.add hto
       refine W.seqR ?_
       refine oN 4 ?_
       refine oC [(10900,10900)] ?_
       refine ct (Read_ok ob t) ?_
       refine oN 8 ?_
       refine oK [14,20,21,22,23] ?_
       refine W.seqR ?_
       refine oN 4 ?_
       refine oC [] ?_
       refine ct (rRead_ok t) ?_
       refine oN 8 ?_
       refine oK [14,20,21,22,23,24,25,26] ?_
       refine W.seqR ?_
       refine oN 4 ?_
       refine gT ?_
       refine gT ?_
       refine gT ?_
       refine oN 2 ?_
       refine gT ?_
       refine gT ?_
       refine gC [] ?_
       refine ct (W6.SameTrades_ok (rd6 t).1 (rd6 t).1 (rd6 t).2.1 (rd6 t).2.1) ?_
       refine gT ?_
       refine oN 1 ?_
       refine oK [14,20,128] ?_
       refine cF ?_
       refine W.skip ?_
       refine hK15 _ ?_
       clear hK15 K15
       refine rEw ?_
       refine ⟨i+1,lf0,v0,v0⟩
      ·
       try simp at hc11
       replace F:=F.add hc11
       refine W.exit ?_
       refine hK13 _ ?_
       clear hK14 K14 hK13 K13
       refine W.seqR ?_
       refine oC [] ?_
       refine ct (W6.awake_ok) ?_
       refine oN 1 ?_
       refine oK [12] ?_
       refine W.ret ?_
       exact er0 false [] [(10900,10900)]
end Go.Sim
