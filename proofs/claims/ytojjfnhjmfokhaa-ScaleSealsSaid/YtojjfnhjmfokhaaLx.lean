/- Seals: the reference's plans. -/
import Derived.Test.YtojjfnhjmfokhaaLt
namespace Go.Sim
set_option maxHeartbeats 4000000
open Go.Proofs
set_option maxRecDepth 100000
set_option linter.unusedSimpArgs false
set_option linter.unusedVariables false
attribute [-simp] List.map_set List.map_take List.map_drop
attribute [simp] spn_eta T2_def T2_isData
theorem rsetK_succ (s:Sls) (day:Int) (left:List Int) (done:List Tst) (set i:Nat):rsetK s day left done set (i+1) =
    (if set.testBit i=true then (rsetK s day left done set i).1++[⟨day,(i:Int)⟩] else (rsetK s day left done set i).1,
     if set.testBit i=true then (rsetK s day left done set i).2.1.set i (max (nth (rsetK s day left done set i).2.1 i) (day+nth s.eve i)) else (rsetK s day left done set i).2.1,
     (rsetK s day left done set i).2.2&&decide (day≤nth (if set.testBit i=true then (rsetK s day left done set i).2.1.set i (max (nth (rsetK s day left done set i).2.1 i) (day+nth s.eve i)) else (rsetK s day left done set i).2.1) i)):=rfl
theorem rallK_succ (s:Sls) (next:List Int→List Tst→Option (List Tst)) (day:Int) (left:List Int) (done:List Tst) (j:Nat):rallK s next day left done (j+1) =
    (if (rsetK s day left done j left.length).2.2=false∨s.most<((rsetK s day left done j left.length).1.length:Int)-done.length then rallK s next day left done j else pickR (rallK s next day left done j) (next (rsetK s day left done j left.length).2.1 (rsetK s day left done j left.length).1)):=rfl
structure LeftR (s:Sls) (left:List Int):Prop where
  l:left.length=s.lef.length
  r:∀x∈left, -1≤x∧x≤100
theorem rsetK_ok {s : Sls} (hv : ValidS s) {day : Int} (hd : 0 ≤ day ∧ day ≤ 10) {left : List Int} (hl : LeftR s left) (done : List Tst) (set : Nat) : ∀ i, i ≤ s.lef.length → LeftR s (rsetK s day left done set i).2.1 ∧ done.length ≤ (rsetK s day left done set i).1.length ∧ (rsetK s day left done set i).1.length ≤ done.length + i
  | 0,_=>⟨hl,Nat.le_refl _,Nat.le_refl _⟩
  | i + 1, hi => by
    obtain ⟨h1,h2,h3⟩:=rsetK_ok hv hd hl done set i (by omega)
    rw [rsetK_succ]
    dsimp only
    refine ⟨?_, ?_, ?_⟩
    · split
      · refine ⟨by rw [List.length_set];exact h1.l,fun x hx=>?_⟩
        rcases List.mem_or_eq_of_mem_set hx with hx | rfl
        · exact h1.r x hx
        · have hil:i<(rsetK s day left done set i).2.1.length:=by have:=h1.l;omega
          have r1:=h1.r _ (List.getElem_mem hil)
          have hie:i<s.eve.length:=by have:=hv.le;omega
          have r2:=hv.eve _ (List.getElem_mem hie)
          rw [nth_get hil,nth_get hie]
          omega
      · exact h1
    · split
      · rw [List.length_append];omega
      · exact h2
    · split
      · rw [List.length_append];simp;omega
      · omega
abbrev optT (x:Option (List Tst)):AV:=.tup [tstV (x.getD []),B x.isSome]
theorem plans_zero (s:Sls) (day:Int) (left:List Int) (done:List Tst) (hd:s.days<day):ACalls Try.prog 84 [slsV s,I day,ints left,tstV done] [] (fun r o=>r=optT (some done)∧o=[]):=by
 have F:=Fx.nil
 replace F:=F.add hd
 refine ent Try.func84 Try.ntmps84 Try.results84 ?_
 refine rK [1,2,3,4] ?_
 refine W.seqk fun K1 hK1=>?_
 refine rK [1,2,3,4,22] ?_
 refine cT ?_
 refine rK [8,9] ?_
 refine W.ret ?_
 refine tr ?_
 clear hK1 K1
 exact er0 false [] []
theorem plans_step (s:Sls) (hv:ValidS s) (day:Int) (left:List Int) (qleft:LeftR s left) (done:List Tst) (hdl:done.length≤100) (k:Nat) (hk:day+(k:Int)=s.days) (hd0:0≤day) (ih:∀(left' : List Int) (done' : List Tst),LeftR s left'→done'.length≤done.length+4→ACalls Try.prog 84 [slsV s,I (day+1),ints left',tstV done'] [] (fun r o=>r=optT (rplanF s k (day+1) left' done')∧o=[])):ACalls Try.prog 84 [slsV s,I day,ints left,tstV done] [] (fun r o=>r=optT (rplanF s (k+1) day left done)∧o=[]):=by
 have F:=Fx.nil
 replace F:=F.add hdl |>.add hk |>.add hd0
 refine ent Try.func84 Try.ntmps84 Try.results84 ?_
 have qd:=hv.days
 have hdl9:day≤s.days:=by omega
 have hd10:s.days≤10:=qd.2
 have hl1:1≤s.lef.length:=hv.l1
 have hl4:s.lef.length≤4:=hv.l4
 have hle:s.eve.length=s.lef.length:=hv.le
 have hmo:0≤s.most:=hv.most.1
 have hm4:s.most≤4:=hv.most.2
 have hll:left.length=s.lef.length:=qleft.l
 have hsl:shlI .i64 1 (s.lef.length:Int)=((2 ^ s.lef.length:Nat):Int):=shl_one hl4
 obtain ⟨N,qN⟩:∃N,2 ^ s.lef.length=N:=⟨_,rfl⟩
 have hN16:N≤16:=by rw [←qN];exact Nat.le_trans (Nat.pow_le_pow_right (by decide) hl4) (by decide)
 rw [qN] at hsl
 obtain ⟨A,qA⟩:∃A:Nat→Option (List Tst),A=rallK s (rplanF s k (day+1)) day left done:=⟨_,rfl⟩
 have hA0:A 0=none:=by rw [qA];rfl
 have qpl:rplanF s (k+1) day left done=A N:=by rw [rplanF,hll,qN,qA]
 replace F:=F.add hdl9 |>.add hd10 |>.add hl1 |>.add hl4 |>.add hle |>.add hmo |>.add hm4 |>.add hll |>.add hsl |>.add hN16 |>.add hA0
 refine rK [1,2,3,4] ?_
 refine W.seqk fun K1 hK1=>?_
 refine rK [1,2,3,4,22] ?_
 refine cF ?_
 refine W.skip ?_
 refine hK1 _ ?_
 clear hK1 K1
 refine rK [1,2,3,4,10] ?_
 refine W.weaken (Le.immNil (t:=10) (by rfl)) ?_
 refine rK [1,2,3,4,10,11] ?_
 refine W.seqk fun K2 hK2=>?_
 refine rK [1,2,3,4,10,11,12] ?_
 refine W.block ?_
 refine lpa (α:=Nat) [1,2,3,4] [26,31,33,34,36,39,61,66,67,82,84,96,105,107,112,114,119] [] (fun j=>[(12,I j),(10,tstV ((A j).getD [])),(11,B (A j).isSome)]) (fun j=>[]) (fun j=>j≤N) (fun j=>N-j) 0 v0 ?_
 ·
  intro j hI0
  simp only [List.cons_append,List.nil_append]
  try dsimp only at hI0
  replace F:=F.add hI0
  refine W.seqk fun K3 hK3=>?_
  refine rK [1,2,3,4,10,11,12,28] ?_
  refine it (fun hc2=>?_) (fun hc2=>?_)
  ·
   try simp at hc2
   replace F:=F.add hc2
   refine W.skip ?_
   refine hK3 _ ?_
   clear hK3 K3
   refine W.seqk fun K4 hK4=>?_
   refine W.block ?_
   have hjN:j<N:=by omega
   have hcd:capOk done.length 16=true:=capOk_of (by omega) (by decide)
   obtain ⟨T,qT⟩:∃T:Nat→List Tst,T=fun i=>(rsetK s day left done j i).1:=⟨_,rfl⟩
   obtain ⟨V,qV⟩:∃V:Nat→List Int,V=fun i=>(rsetK s day left done j i).2.1:=⟨_,rfl⟩
   obtain ⟨Fq,qF⟩:∃Fq:Nat→Bool,Fq=fun i=>(rsetK s day left done j i).2.2:=⟨_,rfl⟩
   have qun:=fun i hi=>rsetK_ok hv (day:=day) ⟨hd0,by omega⟩ qleft done j i hi
   have hT0:T 0=done:=by rw [qT];rfl
   have hV0:V 0=left:=by rw [qV];rfl
   have hF0:Fq 0=true:=by rw [qF];rfl
   replace F:=F.add hjN |>.add hcd |>.add hT0 |>.add hV0 |>.add hF0
   refine rKw [1,2,3,4,10,11,12,13,14] ?_
   refine rK [1,2,3,4,10,11,12,13,14,15] ?_
   refine W.seqk fun K5 hK5=>?_
   refine rK [1,2,3,4,10,11,12,13,14,15,16] ?_
   refine W.block ?_
   refine lpa (α:=Nat) [1,2,3,4,10,11,12] [39,61,66,67] [248,272] (fun i=>[(16,I i),(15,B (Fq i)),(13,.own 248 0 s.lef.length),(14,.own 272 0 (T i).length)]) (fun i=>[(248,.row true 3 1 ((V i).map I)),(272,.row true 100 2 ((T i).map T2))]) (fun i=>i≤s.lef.length) (fun i=>s.lef.length-i) 0 v0 ?_
   ·
    intro i hI1
    simp only [List.cons_append,List.nil_append]
    try dsimp only at hI1
    replace F:=F.add hI1
    refine W.seqk fun K6 hK6=>?_
    refine rK [1,2,3,4,10,11,12,13,14,15,16,40] ?_
    refine it (fun hc3=>?_) (fun hc3=>?_)
    ·
     try simp at hc3
     replace F:=F.add hc3
     refine W.skip ?_
     refine hK6 _ ?_
     clear hK6 K6
     refine W.seqk fun K7 hK7=>?_
     refine W.block ?_
     refine W.seqk fun K8 hK8=>?_
     have hil:i<s.eve.length:=by omega
     have hil2:i<s.lef.length:=by omega
     have hi4:(i:Int)<4:=by omega
     have hVl:(V i).length=s.lef.length:=by rw [qV];exact (qun i (by omega)).1.l
     have hTl:(T i).length≤done.length+i:=by rw [qT];exact (qun i (by omega)).2.2
     have hiV:i<(V i).length:=by omega
     obtain ⟨vi,qvi⟩:∃vi,(V i)[i]'(by omega)=vi:=⟨_,rfl⟩
     have hvi:=qvi
     have qvr : -1≤vi∧vi≤100:=by rw [←qvi];have h:=(qun i (by omega)).1.r;simp only [qV] at qvi ⊢;exact h _ (List.getElem_mem _)
     obtain ⟨ei,qei⟩:∃ei,s.eve[i]=ei:=⟨_,rfl⟩
     have hei:=qei
     have qer:0≤ei∧ei≤10:=by rw [←qei];exact hv.eve _ (List.getElem_mem hil)
     have hwr:IntKind.i64.wrap (day+ei)=day+ei:=wrap_i64 (by omega) (by omega)
     obtain ⟨mx,qmx⟩:∃mx,(if vi<day+ei then day+ei else vi)=mx:=⟨_,rfl⟩
     have hmx:=qmx
     have qwe:mx=max vi (day+ei):=by rw [←qmx];split<;>omega
     have qsk:=rsetK_succ s day left done j i
     have hcp:capOk ((T i).length+1) 16=true:=capOk_of (by omega) (by decide)
     have hbt:andI .i64 (shrI .i64 (j:Int) (i:Int)) 1=if j.testBit i then 1 else 0:=bit_ask (by omega) (by omega)
     replace F:=F.add hil |>.add hil2 |>.add hi4 |>.add hVl |>.add hTl |>.add hiV |>.add hvi |>.add hei |>.add hwr |>.add hmx |>.add hcp |>.add hbt
     by_cases hb:j.testBit i=true
     ·
      replace F:=F.add hb
      have qVe:V (i+1)=(V i).set i mx:=by
        have h:=congrArg (fun (x:List Tst×List Int×Bool)=>x.2.1) qsk
        rw [qV];refine h.trans ?_
        show (if _ then _ else _)=_
        have hV2:(rsetK s day left done j i).2.1=V i:=by rw [qV]
        rw [if_pos hb,qwe,←qvi,←qei,nth_get hil,hV2,nth_get hiV]
        simp only [qV]
      have hVs:(V i).set i mx=V (i+1):=qVe.symm
      have hVl1:(V (i+1)).length=s.lef.length:=by rw [qVe,List.length_set];exact hVl
      have hvw:(V (i+1))[i]'(by omega)=mx:=by simp [qVe]
      have hTs:T (i+1)=T i++[⟨day,(i:Int)⟩]:=by
        have h:=congrArg (fun (x:List Tst×List Int×Bool)=>x.1) qsk
        rw [qT];refine h.trans ?_
        show (if _ then _ else _)=_
        rw [if_pos hb]
      have hFs:Fq (i+1)=(Fq i&&decide (day≤mx)):=by
        have h:=congrArg (fun (x:List Tst×List Int×Bool)=>x.2.2) qsk
        have e:nth (V (i+1)) i=mx:=by rw [nth_get (by omega)];exact hvw
        rw [←e,qF];refine h.trans ?_
        simp only [qV,qsk]
      replace F:=F.add hVs |>.add hVl1 |>.add hvw |>.add hTs |>.add hFs
      refine rK [1,2,3,4,10,11,12,13,14,15,16,47] ?_
      refine cT ?_
      refine wDe 20 [(19,[272])] [[],[],[],[],[3,2],[2,3,4],[],[],[7],[],[9,7,8],[8,7,9,10],[10,9,7,8,11,6],[6,11,8,7,9,10,12,4,3,2,5],[],[],[],[16,15],[15,16,17],[17,16,15,18,14],[14,18,15,16,17,19,13,12,11,10,9,8,7,6,5,4,3,2,1,0],[0,1,2,3,4,5,6,7,8,9,10,11,12,13,19,17,16,15,18,14,20],[20,13,12,11,10,9,8,7,6,5,4,3,2,1,0,21,14,18,15,16,17,19]] ?_
      refine dB [([49,50,51,52,53,54,55,56,57,58,59,60,61,62,63,64,65,66,67],[],[272]),([48,50,51,52,53,54,55,56,57,58,59,60,61,62,63,64,65,66,67],[false],[272]),([48,49,51,54,55,56,57,58,59,60,62,63,64,65,66,67],[false,false],[272]),([48,49,50,54,55,56,57,58,59,60,62,63,64,65,66,67],[false,false,false],[272]),([48,49,54,55,56,57,58,59,60,62,63,64,65,66,67],[false,false,true,true],[272]),([48,49,54,55,56,57,58,59,60,62,63,64,65,66,67],[false,false,true,true,true],[272]),([48,49,50,51,52,53,55,56,57,58,59,62,63,64,65,66,67],[false,false,false,false,false,false],[272]),([48,49,50,51,52,53,54,57,62,63,64,65,66,67],[false,false,false,false,false,false,false],[272]),([48,49,50,51,52,53,54,57,62,63,64,65,66,67],[false,false,false,false,false,false,false,true],[272]),([48,49,50,51,52,53,54,55,56,62,63,64,65,66,67],[false,false,false,false,false,false,false,false,false],[272]),([48,49,50,51,52,53,54,62,63,64,65,66,67],[false,false,false,false,false,false,false,true,true,true],[272]),([48,49,50,51,52,53,54,62,63,64,65,66,67],[false,false,false,false,false,false,false,true,true,true,true],[272]),([48,49,50,51,52,53,62,63,64,65,66,67],[false,false,false,false,false,false,true,true,true,true,true,true],[272]),([48,49,62,63,64,65,66,67],[false,false,true,true,true,true,true,true,true,true,true,true,true],[272]),([48,49,50,51,52,53,54,55,56,57,58,59,60,61,63,64,65,66],[false,false,false,false,false,false,false,false,false,false,false,false,false,false],[]),([48,49,50,51,52,53,54,55,56,57,58,59,60,61,62,64],[false,false,false,false,false,false,false,false,false,false,false,false,false,false,false],[]),([48,49,50,51,52,53,54,55,56,57,58,59,60,61,62,63],[false,false,false,false,false,false,false,false,false,false,false,false,false,false,false,false],[]),([48,49,50,51,52,53,54,55,56,57,58,59,60,61,62],[false,false,false,false,false,false,false,false,false,false,false,false,false,false,false,true,true],[]),([48,49,50,51,52,53,54,55,56,57,58,59,60,61,62],[false,false,false,false,false,false,false,false,false,false,false,false,false,false,false,true,true,true],[])] 1 19 ?_
      refine dA [48,49,50,51,52,53,54,55,56,57,58,59,60,61] [false,false,false,false,false,false,false,false,false,false,false,false,false,false,true,true,true,true,true] [] [272] ?_
      refine dD ?_
      refine WOps.le (Le.exch (x:=536) (y:=272) (by simp [hdl,hk,hd0,hdl9,hd10,hl1,hl4,hle,hmo,hm4,hll,hsl,hN16,hA0,hI0,hc2,hjN,hcd,hT0,hV0,hF0,hI1,hc3,hil,hil2,hi4,hVl,hTl,hiV,hvi,hei,hwr,hmx,hcp,hbt,hb,hVs,hVl1,hvw,hTs,hFs];rfl)) rfl rfl ?_
      refine oN 3 ?_
      refine WOps.endK ?_
      refine hK8 _ ?_
      clear hK8 K8
      by_cases hFi:Fq i=true
      ·
       replace F:=F.add hFi
       refine W.region ?_
       refine oN 2 ?_
       refine gT ?_
       refine gT ?_
       refine gT ?_
       refine gT ?_
       refine gT ?_
       refine gT ?_
       refine oN 2 ?_
       refine WOps.endK ?_
       refine hK7 _ ?_
       clear hK7 K7
       refine rEw ?_
       refine ⟨i+1,lf0,v0,v0⟩
      ·
       replace F:=F.add hFi
       refine W.region ?_
       refine oN 2 ?_
       refine gF ?_
       refine gF ?_
       refine gF ?_
       refine gF ?_
       refine gF ?_
       refine gF ?_
       refine oN 2 ?_
       refine WOps.endK ?_
       refine hK7 _ ?_
       clear hK7 K7
       refine rEw ?_
       refine ⟨i+1,lf0,v0,v0⟩
     ·
      replace F:=F.add hb
      have hV1:V (i+1)=V i:=by
        have h:=congrArg (fun (x:List Tst×List Int×Bool)=>x.2.1) qsk
        rw [qV];refine h.trans ?_
        show (if _ then _ else _)=_
        rw [if_neg hb]
      have hT1:T (i+1)=T i:=by
        have h:=congrArg (fun (x:List Tst×List Int×Bool)=>x.1) qsk
        rw [qT];refine h.trans ?_
        show (if _ then _ else _)=_
        rw [if_neg hb]
      have hFs:Fq (i+1)=(Fq i&&decide (day≤vi)):=by
        have h:=congrArg (fun (x:List Tst×List Int×Bool)=>x.2.2) qsk
        have e:nth (V (i+1)) i=vi:=by rw [hV1,nth_get (by omega)];exact hvi
        rw [←e,qF];refine h.trans ?_
        simp only [qV,qsk]
      replace F:=F.add hV1 |>.add hT1 |>.add hFs
      refine rK [1,2,3,4,10,11,12,13,14,15,16,47] ?_
      refine cF ?_
      refine W.skip ?_
      refine hK8 _ ?_
      clear hK8 K8
      by_cases hFi:Fq i=true
      ·
       replace F:=F.add hFi
       refine W.region ?_
       refine oN 2 ?_
       refine gT ?_
       refine gT ?_
       refine gT ?_
       refine gT ?_
       refine gT ?_
       refine gT ?_
       refine oN 2 ?_
       refine WOps.endK ?_
       refine hK7 _ ?_
       clear hK7 K7
       refine rEw ?_
       refine ⟨i+1,lf0,v0,v0⟩
      ·
       replace F:=F.add hFi
       refine W.region ?_
       refine oN 2 ?_
       refine gF ?_
       refine gF ?_
       refine gF ?_
       refine gF ?_
       refine gF ?_
       refine gF ?_
       refine oN 2 ?_
       refine WOps.endK ?_
       refine hK7 _ ?_
       clear hK7 K7
       refine rEw ?_
       refine ⟨i+1,lf0,v0,v0⟩
    ·
     try simp at hc3
     replace F:=F.add hc3
     refine W.exit ?_
     refine hK5 _ ?_
     clear hK6 K6 hK5 K5
     refine W.seqk fun K9 hK9=>?_
     have hin:i=s.lef.length:=by omega
     have hVn:(V s.lef.length).length=s.lef.length:=by rw [qV];exact (qun s.lef.length (Nat.le_refl _)).1.l
     have hTn:(T s.lef.length).length≤done.length+4:=by rw [qT];have:=(qun s.lef.length (Nat.le_refl _)).2.2;show (rsetK s day left done j s.lef.length).1.length≤_;omega
     have hTn2:done.length≤(T s.lef.length).length:=by rw [qT];exact (qun s.lef.length (Nat.le_refl _)).2.1
     have qLn:LeftR s (V s.lef.length):=by rw [qV];exact (qun s.lef.length (Nat.le_refl _)).1
     have hwsb:IntKind.i64.wrap (((T s.lef.length).length:Int)-done.length)=((T s.lef.length).length:Int)-done.length:=wrap_i64 (by omega) (by omega)
     have htkv:List.take s.lef.length (V s.lef.length)=V s.lef.length:=List.take_of_length_le (by omega)
     obtain ⟨R,qR⟩:∃R,rplanF s k (day+1) (V s.lef.length) (T s.lef.length)=R:=⟨_,rfl⟩
     have ih1:=ih (V s.lef.length) (T s.lef.length) qLn hTn
     rw [qR] at ih1
     have qAs:=rallK_succ s (rplanF s k (day+1)) day left done j
     have qAs2:A (j+1)=if Fq s.lef.length=false∨s.most<((T s.lef.length).length:Int)-done.length then A j else pickR (A j) R:=by
       rw [qA];refine qAs.trans ?_
       rw [hll,←qR,qT,qV,qF]
     replace F:=F.add hin |>.add hVn |>.add hTn |>.add hTn2 |>.add hwsb |>.add htkv
     by_cases hFn:Fq s.lef.length=true
     ·
      replace F:=F.add hFn
      by_cases hmn:s.most<((T s.lef.length).length:Int)-done.length
      ·
       replace F:=F.add hmn
       have hAs:A (j+1)=A j:=by rw [qAs2,if_pos (.inr hmn)]
       replace F:=F.add hAs
       refine W.seqR ?_
       refine oN 3 ?_
       refine gT ?_
       refine gT ?_
       refine gT ?_
       refine gT ?_
       refine gT ?_
       refine gT ?_
       refine gT ?_
       refine gT ?_
       refine oN 1 ?_
       refine oK [1,2,3,4,10,11,12,13,14,89] ?_
       refine cT ?_
       refine W.exit ?_
       refine hK4 _ ?_
       clear hK9 K9 hK4 K4
       refine rEw ?_
       refine ⟨j+1,lf0,v0,v0⟩
      ·
       replace F:=F.add hmn
       have qAs3:A (j+1)=pickR (A j) R:=by rw [qAs2,if_neg (by rintro (h | h);rw [hFn] at h;cases h;exact hmn h)]
       refine W.seqR ?_
       refine oN 3 ?_
       refine gT ?_
       refine gT ?_
       refine gT ?_
       refine gT ?_
       refine gT ?_
       refine gT ?_
       refine gT ?_
       refine gT ?_
       refine oN 1 ?_
       refine oK [1,2,3,4,10,11,12,13,14,89] ?_
       refine cF ?_
       refine W.skip ?_
       refine hK9 _ ?_
       clear hK9 K9
       obtain ⟨O,qO⟩:∃O,A j=O:=⟨_,rfl⟩
       have hAj:=qO
       rw [qO] at qAs3
       replace F:=F.add hAj
       refine W.weaken (Le.freeze (id:=248) (by simp [hdl,hk,hd0,hdl9,hd10,hl1,hl4,hle,hmo,hm4,hll,hsl,hN16,hA0,hI0,hc2,hjN,hcd,hT0,hV0,hF0,hI1,hc3,hin,hVn,hTn,hTn2,hwsb,htkv,hFn,hmn,hAj];rfl)) ?_
       refine W.weaken (Le.freeze (id:=272) (by simp [hdl,hk,hd0,hdl9,hd10,hl1,hl4,hle,hmo,hm4,hll,hsl,hN16,hA0,hI0,hc2,hjN,hcd,hT0,hV0,hF0,hI1,hc3,hin,hVn,hTn,hTn2,hwsb,htkv,hFn,hmn,hAj];rfl)) ?_
       refine W.seqR ?_
       refine oNw 5 ?_
       refine oC [] ?_
       refine ct (ih1) ?_
       refine oN 5 ?_
       refine oK [1,2,3,4,10,11,12,17,18] ?_
       by_cases hRn:R=none
       ·
        replace F:=F.add hRn
        have hAs:A (j+1)=O:=by rw [qAs3,hRn];rfl
        replace F:=F.add hAs
        refine W.seqR ?_
        refine oN 2 ?_
        refine gF ?_
        refine gF ?_
        refine gF ?_
        refine gF ?_
        refine gF ?_
        refine gF ?_
        refine gF ?_
        refine gF ?_
        refine gF ?_
        refine gF ?_
        refine gF ?_
        refine gF ?_
        refine gF ?_
        refine gF ?_
        refine gF ?_
        refine gF ?_
        refine gF ?_
        refine gF ?_
        refine gF ?_
        refine gF ?_
        refine gF ?_
        refine oN 1 ?_
        refine oK [1,2,3,4,10,11,12,17,122] ?_
        refine cF ?_
        refine W.skip ?_
        refine hK4 _ ?_
        clear hK4 K4
        refine rEw ?_
        refine ⟨j+1,lf0,v0,v0⟩
       ·
        replace F:=F.add hRn
        obtain ⟨x,qx⟩:=Option.ne_none_iff_exists'.1 hRn
        have hRx:=qx
        replace F:=F.add hRx
        by_cases hOn:O=none
        ·
         replace F:=F.add hOn
         have hAs:A (j+1)=some x:=by rw [qAs3,hOn,qx];rfl
         replace F:=F.add hAs
         refine W.seqR ?_
         refine oN 2 ?_
         refine gT ?_
         refine gT ?_
         refine gT ?_
         refine gF ?_
         refine gF ?_
         refine gF ?_
         refine gF ?_
         refine gF ?_
         refine gT ?_
         refine gT ?_
         refine gF ?_
         refine gF ?_
         refine gF ?_
         refine gF ?_
         refine gF ?_
         refine gF ?_
         refine gF ?_
         refine gF ?_
         refine gF ?_
         refine gF ?_
         refine gT ?_
         refine oN 1 ?_
         refine oK [1,2,3,4,10,11,12,17,122] ?_
         refine cT ?_
         refine rE ?_
         refine hK4 _ ?_
         clear hK4 K4
         refine rEw ?_
         refine ⟨j+1,lf0,v0,v0⟩
        ·
         replace F:=F.add hOn
         obtain ⟨y,qy⟩:=Option.ne_none_iff_exists'.1 hOn
         have hOy:=qy
         have qAs4:A (j+1)=if x.length<y.length∨(x.length=y.length∧laterB x y=true) then some x else some y:=by rw [qAs3,qy,qx];rfl
         replace F:=F.add hOy
         by_cases hlt:x.length<y.length
         ·
          replace F:=F.add hlt
          have hAs:A (j+1)=some x:=by rw [qAs4,if_pos (.inl hlt)]
          replace F:=F.add hAs
          refine W.seqR ?_
          refine oN 2 ?_
          refine gT ?_
          refine gT ?_
          refine gT ?_
          refine gT ?_
          refine gT ?_
          refine gT ?_
          refine gT ?_
          refine gT ?_
          refine gT ?_
          refine gT ?_
          refine gF ?_
          refine gF ?_
          refine gF ?_
          refine gF ?_
          refine gF ?_
          refine gF ?_
          refine gF ?_
          refine gF ?_
          refine gF ?_
          refine gF ?_
          refine gT ?_
          refine oN 1 ?_
          refine oK [1,2,3,4,10,11,12,17,122] ?_
          refine cT ?_
          refine rE ?_
          refine hK4 _ ?_
          clear hK4 K4
          refine rEw ?_
          refine ⟨j+1,lf0,v0,v0⟩
         ·
          replace F:=F.add hlt
          by_cases heq:x.length=y.length
          ·
           replace F:=F.add heq
           by_cases hla:laterB x y=true
           ·
            replace F:=F.add hla
            have hAs:A (j+1)=some x:=by rw [qAs4,if_pos (.inr ⟨heq,hla⟩)]
            replace F:=F.add hAs
            refine W.seqR ?_
            refine oN 2 ?_
            refine gT ?_
            refine gT ?_
            refine gT ?_
            refine gT ?_
            refine gT ?_
            refine gT ?_
            refine gT ?_
            refine gT ?_
            refine gT ?_
            refine gT ?_
            refine gT ?_
            refine gT ?_
            refine gT ?_
            refine gT ?_
            refine gT ?_
            refine gT ?_
            refine gT ?_
            refine gT ?_
            refine gC [] ?_
            refine ct (rLater_ok x y heq) ?_
            refine gT ?_
            refine gT ?_
            refine oN 1 ?_
            refine oK [1,2,3,4,10,11,12,17,122] ?_
            refine cT ?_
            refine rE ?_
            refine hK4 _ ?_
            clear hK4 K4
            refine rEw ?_
            refine ⟨j+1,lf0,v0,v0⟩
           ·
            replace F:=F.add hla
            have hAs:A (j+1)=some y:=by rw [qAs4,if_neg (by rintro (h | ⟨_,h⟩);exact hlt h;exact hla h)]
            replace F:=F.add hAs
            refine W.seqR ?_
            refine oN 2 ?_
            refine gT ?_
            refine gT ?_
            refine gT ?_
            refine gT ?_
            refine gT ?_
            refine gT ?_
            refine gT ?_
            refine gT ?_
            refine gT ?_
            refine gT ?_
            refine gT ?_
            refine gT ?_
            refine gT ?_
            refine gT ?_
            refine gT ?_
            refine gT ?_
            refine gT ?_
            refine gT ?_
            refine gC [] ?_
            refine ct (rLater_ok x y heq) ?_
            refine gT ?_
            refine gT ?_
            refine oN 1 ?_
            refine oK [1,2,3,4,10,11,12,17,122] ?_
            refine cF ?_
            refine W.skip ?_
            refine hK4 _ ?_
            clear hK4 K4
            refine rEw ?_
            refine ⟨j+1,lf0,v0,v0⟩
          ·
           replace F:=F.add heq
           have hAs:A (j+1)=some y:=by rw [qAs4,if_neg (by rintro (h | ⟨h,_⟩);exact hlt h;exact heq h)]
           have hnl1:¬(x.length:Int)<(y.length:Int):=by omega
           have hnl2:((x.length:Int)==(y.length:Int))=false:=by simp;omega
           replace F:=F.add hAs |>.add hnl1 |>.add hnl2
           refine W.seqR ?_
           refine oN 2 ?_
           refine gT ?_
           refine gT ?_
           refine gT ?_
           refine gT ?_
           refine gT ?_
           refine gT ?_
           refine gT ?_
           refine gT ?_
           refine gT ?_
           refine gT ?_
           refine gT ?_
           refine gT ?_
           refine gT ?_
           refine gT ?_
           refine gT ?_
           refine gT ?_
           refine gF ?_
           refine gF ?_
           refine gF ?_
           refine gT ?_
           refine gT ?_
           refine oN 1 ?_
           refine oK [1,2,3,4,10,11,12,17,122] ?_
           refine cF ?_
           refine W.skip ?_
           refine hK4 _ ?_
           clear hK4 K4
           refine rEw ?_
           refine ⟨j+1,lf0,v0,v0⟩
     ·
      replace F:=F.add hFn
      have hAs:A (j+1)=A j:=by rw [qAs2,if_pos (.inl (by simpa using hFn))]
      replace F:=F.add hAs
      refine W.seqR ?_
      refine oN 3 ?_
      refine gF ?_
      refine gF ?_
      refine gF ?_
      refine gF ?_
      refine gF ?_
      refine gF ?_
      refine gF ?_
      refine gF ?_
      refine oN 1 ?_
      refine oK [1,2,3,4,10,11,12,13,14,89] ?_
      refine cT ?_
      refine W.exit ?_
      refine hK4 _ ?_
      clear hK9 K9 hK4 K4
      refine rEw ?_
      refine ⟨j+1,lf0,v0,v0⟩
  ·
   try simp at hc2
   replace F:=F.add hc2
   refine W.exit ?_
   refine hK2 _ ?_
   clear hK3 K3 hK2 K2
   refine rK [8,9] ?_
   refine W.ret ?_
   refine er false [] [] ?_
   have e:j=N:=by omega
   rw [qpl,←e];exact ⟨rfl,rfl⟩
end Go.Sim
