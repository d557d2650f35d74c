/- A ledger that is read, by the reference. -/
import Derived.Test.YtholkejjmookfaaGreatDoorIy
import Derived.Test.YtholkejjmookfaaGreatDoorVm
namespace Go.Sim
open Go.Proofs W6
set_option maxRecDepth 100000
set_option linter.unusedSimpArgs false
set_option linter.unusedVariables false
attribute [-simp] List.map_set List.map_take List.map_drop
theorem rCheck_app (ow:List Turn) (dn:List (List Turn)) (cur:List Turn):ACalls Tryz.prog 34 [.agg [turns ow,.imm (dn.map (fun x=>turns x)++[turns cur])]] [] (fun r o=>r=I (checkT ow (dn++[cur]))∧o=[]):=trade_app ow dn cur▸W6.rCheck_ok ow (dn++[cur])
section
attribute [local simp] frz_tu ren_tu kill_tu data_tu prsA lkE_nil init6
set_option maxHeartbeats 4000000 in
theorem rRead_ok (text:List UInt8):ACalls Tryz.prog 12 [txtA text] [] (fun r o=>r=rdA (rd6 text)∧o=[]):=by
 have F:=Fx.nil
 refine ent Tryz.func12 Tryz.ntmps12 Tryz.results12 ?_
 refine rK [0,2] ?_
 refine W.seqk fun K1 hK1=>?_
 refine rK [0,2,16] ?_
 refine it (fun hc1=>?_) (fun hc1=>?_)
 ·
  try simp at hc1
  replace F:=F.add hc1
  refine rK [2,3,4] ?_
  refine W.ret ?_
  refine tr ?_
  clear hK1 K1
  refine er true [] [] ?_
  first
  | (rw [rd6_err0 hnl qs hze (qJ.fin (by omega)) h0c hfe (by assumption)];exact ⟨rfl,rfl⟩)
  | (rw [rd6_fin0 hnl qs hze (qJ.fin (by omega)) h0c hfe (by assumption)];exact ⟨rfl,rfl⟩)
  | (rw [rd6_err1 hnl qs hze (qJ.fin (by omega)) h0c hfe (by assumption)];exact ⟨rfl,rfl⟩)
  | (rw [rd6_fin1 hnl qs hze (qJ.fin (by omega)) h0c hfe (by assumption)];exact ⟨congrArg (fun x=>AV.tup [x,I 0,I 0]) (trade_app ow dn cur).symm,rfl⟩)
  | (rw [rd6_long (by omega)];exact ⟨rfl,rfl⟩)
  | (rw [rd6_bad hnl qs (qJ.bad hil qr (step6_a hpn))];exact ⟨rfl,rfl⟩)
  | (rw [rd6_bad hnl qs (qJ.bad hil qr (step6_b qpw hen))];exact ⟨rfl,rfl⟩)
  | (rw [rd6_bad hnl qs (qJ.bad hil qr (step6_n qpw hen2 (by first | exact fun k=>hlt (by rw [k.2];rfl) | exact fun k=>hwt (by rw [k.1];rfl)) (by first | exact fun k=>absurd (k.1.symm.trans (eq_of_beq hwt)) (by decide) | exact fun k=>hlk2 (by rw [k.2.1];rfl) | exact fun k=>k.2.2 h0b | exact fun k=>hwk (by rw [k.1];rfl)) (by first | exact fun k=>absurd (k.1.symm.trans (eq_of_beq hwt)) (by decide) | exact fun k=>absurd (k.1.symm.trans (eq_of_beq hwk)) (by decide) | exact fun k=>hwe (by rw [k.1];rfl) | exact fun k=>hle (by rw [k.2];rfl) | exact fun k=>hae (List.cons.inj k.2).1)))];exact ⟨rfl,rfl⟩)
  | (rw [rd6_open hnl qs (qJ.fin (by omega)) (.inl hfe2)];exact ⟨rfl,rfl⟩)
  | (rw [rd6_open hnl qs (qJ.fin (by omega)) (.inr hze)];exact ⟨rfl,rfl⟩)
 ·
  try simp at hc1
  replace F:=F.add hc1
  refine W.skip ?_
  refine hK1 _ ?_
  clear hK1 K1
  refine W.seqR ?_
  refine oN 1 ?_
  refine oC [] ?_
  refine CallT.mk (rsplit_ok text 10 (by omega)) (by simp [hc1]) ?_
  obtain ⟨R,z,qs⟩:=last_of (spl_ne (c:=10) (l:=text) (cur:=[]))
  have hsp:=qs
  have qle:=spl_len (c:=10) (l:=text) (cur:=[])
  have qpl:∀p∈R,p.length≤text.length:=fun p hp=>by
    have:=spl_part (c:=10) (l:=text) (cur:=[]) (p:=p) (by rw [qs];exact List.mem_append_left _ hp)
    simpa using this
  rw [qs] at qle
  have qRl:R.length≤3000:=by simp at qle;omega
  have hnl:¬3000<text.length:=by omega
  have htk:List.take R.length (R.map txtA++[txtA z])=R.map txtA:=List.take_left' (by simp)
  replace F:=F.add hsp |>.add hnl |>.add htk
  refine WOps.norm (by simp [hc1,hsp,hnl,htk];rfl) ?_
  refine oN 1 ?_
  refine oK [2,5] ?_
  refine rK [2,5,6] ?_
  refine rK [2,5,6,7] ?_
  refine W.seqk fun K2 hK2=>?_
  refine rK [2,5,6,7,8] ?_
  refine W.block ?_
  refine W.ownNilO 48 0 0 9000 57 2 (by simp;rfl) ?_
  refine W.ownNilO 48 0 1 9008 22 1 (by simp;rfl) ?_
  refine W.weaken (Le.loose (id:=9008) (by simp;rfl)) ?_
  refine W.weaken (Le.phantom 9016 57 2 rfl (by simp;rfl)) ?_
  refine lpa (α:=Nat×S6) [2,5,6] [22,32,38,51,63,64,67,68,76,98,99,106,114] [48,9000,9008,9016] (fun x=>[(8,I x.1),(7,B x.2.ended)]) (fun x=>[(48,.row false 25 2 [.agg [.own 9000 0 x.2.ow.length,.own 9008 0 x.2.ow.length]]),(9000,.row true 57 2 (x.2.ow.map T)),(9008,.row false 22 1 (lkE x.2.ow x.2.done x.2.cur.length)),(9016,.row true 57 2 (x.2.cur.map T))]) (fun x=>x.1≤R.length∧x.2.ow.length≤x.1∧x.2.cur.length≤x.1∧RJ R x.1 x.2) (fun x=>R.length-x.1) (0,init6) ?_ ?_
  ·
   exact ⟨by simp,by simp,by simp,RJ.init R⟩
  ·
   intro ⟨i,⟨ow,dn,cur,en⟩⟩ hI0
   simp only [List.cons_append,List.nil_append]
   try dsimp only at hI0
   obtain ⟨hi0,hoi,hci,qJ⟩:=hI0
   replace F:=F.add hi0 |>.add hoi |>.add hci
   refine W.seqk fun K3 hK3=>?_
   refine rKw [2,5,6,7,8,24] ?_
   refine it (fun hc2=>?_) (fun hc2=>?_)
   ·
    try simp at hc2
    replace F:=F.add hc2
    refine W.skip ?_
    refine hK3 _ ?_
    clear hK3 K3
    refine W.seqk fun K4 hK4=>?_
    refine W.block ?_
    have hil:i<R.length:=by omega
    obtain ⟨row,qr⟩:∃row,R[i]=row:=⟨_,rfl⟩
    have hgi:(R.map txtA++[txtA z])[i]?=some (txtA row):=by rw [List.getElem?_append_left (by simpa using hil)];simp [hil,qr]
    have hi1:(i:Int)<(R.length:Int)+1:=by omega
    have qrl:row.length≤1000000:=by have:=qpl row (by rw [←qr];exact List.getElem_mem hil);omega
    replace F:=F.add hil |>.add hgi |>.add hi1
    by_cases hpn:parse6 row=none
    ·
     replace F:=F.add hpn
     refine W.seqR ?_
     refine oN 4 ?_
     refine oC [] ?_
     refine ct (rparse_ok row qrl) ?_
     refine oN 7 ?_
     refine oK [2,5,6,7,8,9,10,11] ?_
     refine rKw [2,5,6,7,8,9,10,11,12] ?_
     refine W.seqk fun K5 hK5=>?_
     refine W.block ?_
     refine W.seqR ?_
     refine oN 3 ?_
     refine gF ?_
     refine oN 2 ?_
     refine oK [2,5,6,7,8,9,10,11,12,40] ?_
     refine cT ?_
     refine rE ?_
     refine hK5 _ ?_
     clear hK5 K5
     refine rK [2,5,6,7,8,117] ?_
     refine cT ?_
     refine rKw [2,3,4] ?_
     refine W.ret ?_
     refine br (tr (tr (br (tr ?_))))
     clear hK4 K4 hK2 K2
     refine er true [] [] ?_
     first
     | (rw [rd6_err0 hnl qs hze (qJ.fin (by omega)) h0c hfe (by assumption)];exact ⟨rfl,rfl⟩)
     | (rw [rd6_fin0 hnl qs hze (qJ.fin (by omega)) h0c hfe (by assumption)];exact ⟨rfl,rfl⟩)
     | (rw [rd6_err1 hnl qs hze (qJ.fin (by omega)) h0c hfe (by assumption)];exact ⟨rfl,rfl⟩)
     | (rw [rd6_fin1 hnl qs hze (qJ.fin (by omega)) h0c hfe (by assumption)];exact ⟨congrArg (fun x=>AV.tup [x,I 0,I 0]) (trade_app ow dn cur).symm,rfl⟩)
     | (rw [rd6_long (by omega)];exact ⟨rfl,rfl⟩)
     | (rw [rd6_bad hnl qs (qJ.bad hil qr (step6_a hpn))];exact ⟨rfl,rfl⟩)
     | (rw [rd6_bad hnl qs (qJ.bad hil qr (step6_b qpw hen))];exact ⟨rfl,rfl⟩)
     | (rw [rd6_bad hnl qs (qJ.bad hil qr (step6_n qpw hen2 (by first | exact fun k=>hlt (by rw [k.2];rfl) | exact fun k=>hwt (by rw [k.1];rfl)) (by first | exact fun k=>absurd (k.1.symm.trans (eq_of_beq hwt)) (by decide) | exact fun k=>hlk2 (by rw [k.2.1];rfl) | exact fun k=>k.2.2 h0b | exact fun k=>hwk (by rw [k.1];rfl)) (by first | exact fun k=>absurd (k.1.symm.trans (eq_of_beq hwt)) (by decide) | exact fun k=>absurd (k.1.symm.trans (eq_of_beq hwk)) (by decide) | exact fun k=>hwe (by rw [k.1];rfl) | exact fun k=>hle (by rw [k.2];rfl) | exact fun k=>hae (List.cons.inj k.2).1)))];exact ⟨rfl,rfl⟩)
     | (rw [rd6_open hnl qs (qJ.fin (by omega)) (.inl hfe2)];exact ⟨rfl,rfl⟩)
     | (rw [rd6_open hnl qs (qJ.fin (by omega)) (.inr hze)];exact ⟨rfl,rfl⟩)
    ·
     replace F:=F.add hpn
     obtain ⟨w,l,qpw⟩:∃w l,parse6 row=some (w,l):=by
       obtain ⟨p,hp⟩:=Option.ne_none_iff_exists'.1 hpn
       exact ⟨p.1,p.2,hp⟩
     have hpw:=qpw
     replace F:=F.add hpw
     by_cases hen:en=true
     ·
      replace F:=F.add hen
      refine W.seqR ?_
      refine oN 4 ?_
      refine oC [] ?_
      refine ct (rparse_ok row qrl) ?_
      refine oN 7 ?_
      refine oK [2,5,6,7,8,9,10,11] ?_
      refine rKw [2,5,6,7,8,9,10,11,12] ?_
      refine W.seqk fun K6 hK6=>?_
      refine W.block ?_
      refine W.seqR ?_
      refine oN 3 ?_
      refine gT ?_
      refine oN 2 ?_
      refine oK [2,5,6,7,8,9,10,11,12,40] ?_
      refine cT ?_
      refine rE ?_
      refine hK6 _ ?_
      clear hK6 K6
      refine rK [2,5,6,7,8,117] ?_
      refine cT ?_
      refine rKw [2,3,4] ?_
      refine W.ret ?_
      refine br (tr (tr (br (tr ?_))))
      clear hK4 K4 hK2 K2
      refine er true [] [] ?_
      first
      | (rw [rd6_err0 hnl qs hze (qJ.fin (by omega)) h0c hfe (by assumption)];exact ⟨rfl,rfl⟩)
      | (rw [rd6_fin0 hnl qs hze (qJ.fin (by omega)) h0c hfe (by assumption)];exact ⟨rfl,rfl⟩)
      | (rw [rd6_err1 hnl qs hze (qJ.fin (by omega)) h0c hfe (by assumption)];exact ⟨rfl,rfl⟩)
      | (rw [rd6_fin1 hnl qs hze (qJ.fin (by omega)) h0c hfe (by assumption)];exact ⟨congrArg (fun x=>AV.tup [x,I 0,I 0]) (trade_app ow dn cur).symm,rfl⟩)
      | (rw [rd6_long (by omega)];exact ⟨rfl,rfl⟩)
      | (rw [rd6_bad hnl qs (qJ.bad hil qr (step6_a hpn))];exact ⟨rfl,rfl⟩)
      | (rw [rd6_bad hnl qs (qJ.bad hil qr (step6_b qpw hen))];exact ⟨rfl,rfl⟩)
      | (rw [rd6_bad hnl qs (qJ.bad hil qr (step6_n qpw hen2 (by first | exact fun k=>hlt (by rw [k.2];rfl) | exact fun k=>hwt (by rw [k.1];rfl)) (by first | exact fun k=>absurd (k.1.symm.trans (eq_of_beq hwt)) (by decide) | exact fun k=>hlk2 (by rw [k.2.1];rfl) | exact fun k=>k.2.2 h0b | exact fun k=>hwk (by rw [k.1];rfl)) (by first | exact fun k=>absurd (k.1.symm.trans (eq_of_beq hwt)) (by decide) | exact fun k=>absurd (k.1.symm.trans (eq_of_beq hwk)) (by decide) | exact fun k=>hwe (by rw [k.1];rfl) | exact fun k=>hle (by rw [k.2];rfl) | exact fun k=>hae (List.cons.inj k.2).1)))];exact ⟨rfl,rfl⟩)
      | (rw [rd6_open hnl qs (qJ.fin (by omega)) (.inl hfe2)];exact ⟨rfl,rfl⟩)
      | (rw [rd6_open hnl qs (qJ.fin (by omega)) (.inr hze)];exact ⟨rfl,rfl⟩)
     ·
      replace F:=F.add hen
      have hen2:en=false:=by simpa using hen
      replace F:=F.add hen2
      refine W.seqR ?_
      refine oN 4 ?_
      refine oC [] ?_
      refine ct (rparse_ok row qrl) ?_
      refine oN 7 ?_
      refine oK [2,5,6,7,8,9,10,11] ?_
      refine rKw [2,5,6,7,8,9,10,11,12] ?_
      refine W.seqk fun K7 hK7=>?_
      refine W.block ?_
      refine W.seqR ?_
      refine oN 3 ?_
      refine gT ?_
      refine oN 2 ?_
      refine oK [2,5,6,7,8,9,10,11,12,40] ?_
      refine cF ?_
      by_cases hwt:(w==[116,114,97,100,101,114])=true
      ·
       replace F:=F.add hwt
       by_cases hlt:(l.length:Int)=2
       ·
        replace F:=F.add hlt
        obtain ⟨a,b,rfl⟩:=two_of hlt
        refine W.seqR ?_
        refine oN 3 ?_
        refine gT ?_
        refine gT ?_
        refine gT ?_
        refine oN 2 ?_
        refine oK [2,5,6,7,8,9,10,11,12,46] ?_
        refine cT ?_
        by_cases h0a:ow=[]
        ·
         replace F:=F.add h0a
         refine W.weaken (Le.freeze (id:=9016) (by simp [h0a];rfl)) ?_
         refine W.weaken (Le.tight (id:=9008) (by simp [h0a];rfl)) ?_
         refine wDe 16 [(10,[9000]),(14,[9008])] [[],[0],[],[2],[2,3],[],[5],[5,6],[6,5,7,3,2,4],[4,2,3,7,5,6,8],[8,6,5,7,3,2,4,9,0,1],[],[11],[],[1,0,9,4,2,3,7,5,6,8,10,13,11,12],[12,11,10,9,8,7,6,5,4,3,2,1,0],[13,14,0,1,2,3,4,5,6,7,8,9,10,11,12,15],[16,15,14,13,12,11,10,9,8,7,6,5,4,3,2,1,0],[0,1,2,3,4,5,6,7,8,9,10,11,12,13,14,15,16,17]] ?_
         refine dB [([56,57,58,59,60,61,62,63,65,66,67],[],[]),([56,57,58,59,60,61,62,63,65,66,67],[true],[]),([54,55,59,60,61,65,66,67],[false,false],[]),([54,55,59,60,61,65,66,67],[false,false,true],[]),([54,55,59,60,61,65,66,67],[false,false,true,true],[]),([54,55,56,57,58,65,66,67],[false,false,false,false,false],[]),([54,55,56,57,58,65,66,67],[false,false,false,false,false,true],[]),([54,55,56,57,58,65,66,67],[false,false,false,false,false,true,true],[]),([54,55,65,66,67],[false,false,true,true,true,true,true,true],[]),([54,55,65,66,67],[false,false,true,true,true,true,true,true,true],[])] 6 10 ?_
         refine dAw [65,66,67] [true,true,true,true,true,true,true,true,true,true] [] [9000] ?_
         refine dB [([54,55,56,57,58,59,60,61,62,63,64,67],[false,false,false,false,false,false,false,false,false,false,false],[9000]),([54,55,56,57,58,59,60,61,62,63,64,67],[false,false,false,false,false,false,false,false,false,false,false,true],[9000]),([54,55,56,57,58,59,60,61,62,63,64,65,66,69],[false,false,false,false,false,false,false,false,false,false,false,false,false],[9000])] 2 14 ?_
         refine dAw [69] [true,true,true,true,true,true,true,true,true,true,true,true,true,true] [] [9008] ?_
         refine dB [([67,68],[true,true,true,true,true,true,true,true,true,true,true,true,true,false,false],[9008])] 0 16 ?_
         refine dD ?_
         refine oN 2 ?_
         refine WOps.le (Le.exch (x:=512) (y:=9000) (by simp [hc1,hsp,hnl,htk,hi0,hoi,hci,hc2,hil,hgi,hi1,hpn,hpw,hen,hen2,hwt,hlt,h0a];rfl)) rfl rfl ?_
         refine WOps.le (Le.exch (x:=544) (y:=9008) (by simp [hc1,hsp,hnl,htk,hi0,hoi,hci,hc2,hil,hgi,hi1,hpn,hpw,hen,hen2,hwt,hlt,h0a];rfl)) rfl rfl ?_
         refine WOps.le (Le.loose (id:=9008) (by simp [hc1,hsp,hnl,htk,hi0,hoi,hci,hc2,hil,hgi,hi1,hpn,hpw,hen,hen2,hwt,hlt,h0a];rfl)) rfl rfl ?_
         refine WOps.le (Le.ownNilO (id:=9008) (k:=ow.length) (j:=0) (nid:=9016) (ty:=57) (sz:=2) (by simp [hc1,hsp,hnl,htk,hi0,hoi,hci,hc2,hil,hgi,hi1,hpn,hpw,hen,hen2,hwt,hlt,h0a];rfl)) rfl rfl ?_
         refine oN 1 ?_
         refine WOps.endK ?_
         refine hK7 _ ?_
         clear hK7 K7
         refine rK [2,5,6,7,8,117] ?_
         refine cF ?_
         refine W.skip ?_
         refine hK4 _ ?_
         clear hK4 K4
         refine rEw ?_
         refine ⟨(i+1,⟨ow++[(a,b)],[],[],false⟩),lf ?_ ?_, ?_,v0⟩
         ·
          exact v1
         ·
          try (simp [Fx.get F])
          all_goals (
           first
           | (simp [lkE];done)
           | (rw [lkE_some (by simp)];simp;done)
           | (rw [lkE_some h0b])
          )
         ·
          first
          | (refine ⟨?_, ?_, ?_,qJ.next hil qr (by have k:=step6_t qpw hen2 hwt (s:=⟨ow,dn,cur,en⟩);simp only [h0a,if_true] at k ⊢;exact k)⟩<;>simp<;>omega)
          | (refine ⟨?_, ?_, ?_,qJ.next hil qr (by have k:=step6_t qpw hen2 hwt (s:=⟨ow,dn,cur,en⟩);simp only [if_neg h0a] at k ⊢;exact k)⟩<;>simp<;>omega)
          | (refine ⟨?_, ?_, ?_,qJ.next hil qr (step6_k qpw hen2 hwk h0b)⟩<;>simp<;>omega)
          | (refine ⟨?_, ?_, ?_,qJ.next hil qr (step6_e qpw hen2 hwe hae)⟩<;>simp<;>omega)
        ·
         replace F:=F.add h0a
         have hdl:ow.length=dn.length+1:=(qJ.len h0a).symm
         have hlk:=lkE_some h0a dn cur.length
         have hct:List.take cur.length (cur.map T)=cur.map T:=List.take_of_length_le (by simp)
         have hdt:AV.isDataL (dn.map (fun x=>turns x)++[.imm (cur.map T)])=true:=data_app (data_tu dn) rfl
         have hgl:∀X:AV,(dn.map (fun x=>turns x)++[.imm (cur.map T),X])[dn.length+1]?=some X:=fun X=>by rw [List.getElem?_append_right (by simp)];simp
         have hsl:∀X Y:AV,(dn.map (fun x=>turns x)++[.imm (cur.map T),X]).set (dn.length+1) Y=dn.map (fun x=>turns x)++[.imm (cur.map T),Y]:=fun X Y=>by rw [List.set_append_right _ _ (by simp)];simp
         refine W.weaken (Le.freeze (id:=9016) (by simp [hlk,hdl,hct];rfl)) ?_
         refine W.weaken (Le.tight (id:=9008) (by simp [hlk,hdl,hct,hdt];rfl)) ?_
         replace F:=F.add hdl |>.add hlk |>.add hct |>.add hdt |>.add hgl |>.add hsl
         refine wDe 16 [(10,[9000]),(14,[9008])] [[],[0],[],[2],[2,3],[],[5],[5,6],[6,5,7,3,2,4],[4,2,3,7,5,6,8],[8,6,5,7,3,2,4,9,0,1],[],[11],[],[1,0,9,4,2,3,7,5,6,8,10,13,11,12],[12,11,10,9,8,7,6,5,4,3,2,1,0],[13,14,0,1,2,3,4,5,6,7,8,9,10,11,12,15],[16,15,14,13,12,11,10,9,8,7,6,5,4,3,2,1,0],[0,1,2,3,4,5,6,7,8,9,10,11,12,13,14,15,16,17]] ?_
         refine dB [([56,57,58,59,60,61,62,63,65,66,67],[],[]),([56,57,58,59,60,61,62,63,65,66,67],[true],[]),([54,55,59,60,61,65,66,67],[false,false],[]),([54,55,59,60,61,65,66,67],[false,false,true],[]),([54,55,59,60,61,65,66,67],[false,false,true,true],[]),([54,55,56,57,58,65,66,67],[false,false,false,false,false],[]),([54,55,56,57,58,65,66,67],[false,false,false,false,false,true],[]),([54,55,56,57,58,65,66,67],[false,false,false,false,false,true,true],[]),([54,55,65,66,67],[false,false,true,true,true,true,true,true],[]),([54,55,65,66,67],[false,false,true,true,true,true,true,true,true],[])] 6 10 ?_
         refine dAw [65,66,67] [true,true,true,true,true,true,true,true,true,true] [] [9000] ?_
         refine dB [([54,55,56,57,58,59,60,61,62,63,64,67],[false,false,false,false,false,false,false,false,false,false,false],[9000]),([54,55,56,57,58,59,60,61,62,63,64,67],[false,false,false,false,false,false,false,false,false,false,false,true],[9000]),([54,55,56,57,58,59,60,61,62,63,64,65,66,69],[false,false,false,false,false,false,false,false,false,false,false,false,false],[9000])] 2 14 ?_
         refine dAw [69] [true,true,true,true,true,true,true,true,true,true,true,true,true,true] [] [9008] ?_
         refine dB [([67,68],[true,true,true,true,true,true,true,true,true,true,true,true,true,false,false],[9008])] 0 16 ?_
         refine dD ?_
         refine oN 2 ?_
         refine WOps.le (Le.exch (x:=512) (y:=9000) (by simp [hc1,hsp,hnl,htk,hi0,hoi,hci,hc2,hil,hgi,hi1,hpn,hpw,hen,hen2,hwt,hlt,h0a,hdl,hlk,hct,hdt,hgl,hsl];rfl)) rfl rfl ?_
         refine WOps.le (Le.exch (x:=544) (y:=9008) (by simp [hc1,hsp,hnl,htk,hi0,hoi,hci,hc2,hil,hgi,hi1,hpn,hpw,hen,hen2,hwt,hlt,h0a,hdl,hlk,hct,hdt,hgl,hsl];rfl)) rfl rfl ?_
         refine WOps.le (Le.loose (id:=9008) (by simp [hc1,hsp,hnl,htk,hi0,hoi,hci,hc2,hil,hgi,hi1,hpn,hpw,hen,hen2,hwt,hlt,h0a,hdl,hlk,hct,hdt,hgl,hsl];rfl)) rfl rfl ?_
         refine WOps.le (Le.ownNilO (id:=9008) (k:=ow.length) (j:=0) (nid:=9016) (ty:=57) (sz:=2) (by simp [hc1,hsp,hnl,htk,hi0,hoi,hci,hc2,hil,hgi,hi1,hpn,hpw,hen,hen2,hwt,hlt,h0a,hdl,hlk,hct,hdt,hgl,hsl];rfl)) rfl rfl ?_
         refine oN 1 ?_
         refine WOps.endK ?_
         refine hK7 _ ?_
         clear hK7 K7
         refine rK [2,5,6,7,8,117] ?_
         refine cF ?_
         refine W.skip ?_
         refine hK4 _ ?_
         clear hK4 K4
         refine rEw ?_
         refine ⟨(i+1,⟨ow++[(a,b)],dn++[cur],[],false⟩),lf ?_ ?_, ?_,v0⟩
         ·
          exact v1
         ·
          try (simp [Fx.get F])
          all_goals (
           first
           | (simp [lkE];done)
           | (rw [lkE_some (by simp)];simp;done)
           | (rw [lkE_some h0b])
          )
         ·
          first
          | (refine ⟨?_, ?_, ?_,qJ.next hil qr (by have k:=step6_t qpw hen2 hwt (s:=⟨ow,dn,cur,en⟩);simp only [h0a,if_true] at k ⊢;exact k)⟩<;>simp<;>omega)
          | (refine ⟨?_, ?_, ?_,qJ.next hil qr (by have k:=step6_t qpw hen2 hwt (s:=⟨ow,dn,cur,en⟩);simp only [if_neg h0a] at k ⊢;exact k)⟩<;>simp<;>omega)
          | (refine ⟨?_, ?_, ?_,qJ.next hil qr (step6_k qpw hen2 hwk h0b)⟩<;>simp<;>omega)
          | (refine ⟨?_, ?_, ?_,qJ.next hil qr (step6_e qpw hen2 hwe hae)⟩<;>simp<;>omega)
       ·
        replace F:=F.add hlt
        have hlb:((l.length:Int)==2)=false:=beq_eq_false_iff_ne.2 hlt
        have hw2:(w==[108,105,107,101])=false:=by rw [eq_of_beq hwt];rfl
        have hw3:(w==[101,110,100])=false:=by rw [eq_of_beq hwt];rfl
        replace F:=F.add hlb |>.add hw2 |>.add hw3
        refine W.seqR ?_
        refine oN 3 ?_
        refine gT ?_
        refine gT ?_
        refine gT ?_
        refine oN 2 ?_
        refine oK [2,5,6,7,8,9,10,11,12,46] ?_
        refine cF ?_
        refine W.seqR ?_
        refine oN 3 ?_
        refine gF ?_
        refine gF ?_
        refine gF ?_
        refine oN 2 ?_
        refine gF ?_
        refine gF ?_
        refine oN 2 ?_
        refine oK [2,5,6,7,8,9,10,11,12,71] ?_
        refine cF ?_
        refine W.seqR ?_
        refine oN 3 ?_
        refine gF ?_
        refine gF ?_
        refine gF ?_
        refine oN 2 ?_
        refine oK [2,5,6,7,8,10,101] ?_
        refine cF ?_
        refine rE ?_
        refine hK7 _ ?_
        clear hK7 K7
        refine rK [2,5,6,7,8,117] ?_
        refine cT ?_
        refine rKw [2,3,4] ?_
        refine W.ret ?_
        refine br (tr (tr (br (tr ?_))))
        clear hK4 K4 hK2 K2
        refine er true [] [] ?_
        first
        | (rw [rd6_err0 hnl qs hze (qJ.fin (by omega)) h0c hfe (by assumption)];exact ⟨rfl,rfl⟩)
        | (rw [rd6_fin0 hnl qs hze (qJ.fin (by omega)) h0c hfe (by assumption)];exact ⟨rfl,rfl⟩)
        | (rw [rd6_err1 hnl qs hze (qJ.fin (by omega)) h0c hfe (by assumption)];exact ⟨rfl,rfl⟩)
        | (rw [rd6_fin1 hnl qs hze (qJ.fin (by omega)) h0c hfe (by assumption)];exact ⟨congrArg (fun x=>AV.tup [x,I 0,I 0]) (trade_app ow dn cur).symm,rfl⟩)
        | (rw [rd6_long (by omega)];exact ⟨rfl,rfl⟩)
        | (rw [rd6_bad hnl qs (qJ.bad hil qr (step6_a hpn))];exact ⟨rfl,rfl⟩)
        | (rw [rd6_bad hnl qs (qJ.bad hil qr (step6_b qpw hen))];exact ⟨rfl,rfl⟩)
        | (rw [rd6_bad hnl qs (qJ.bad hil qr (step6_n qpw hen2 (by first | exact fun k=>hlt (by rw [k.2];rfl) | exact fun k=>hwt (by rw [k.1];rfl)) (by first | exact fun k=>absurd (k.1.symm.trans (eq_of_beq hwt)) (by decide) | exact fun k=>hlk2 (by rw [k.2.1];rfl) | exact fun k=>k.2.2 h0b | exact fun k=>hwk (by rw [k.1];rfl)) (by first | exact fun k=>absurd (k.1.symm.trans (eq_of_beq hwt)) (by decide) | exact fun k=>absurd (k.1.symm.trans (eq_of_beq hwk)) (by decide) | exact fun k=>hwe (by rw [k.1];rfl) | exact fun k=>hle (by rw [k.2];rfl) | exact fun k=>hae (List.cons.inj k.2).1)))];exact ⟨rfl,rfl⟩)
        | (rw [rd6_open hnl qs (qJ.fin (by omega)) (.inl hfe2)];exact ⟨rfl,rfl⟩)
        | (rw [rd6_open hnl qs (qJ.fin (by omega)) (.inr hze)];exact ⟨rfl,rfl⟩)
      ·
       replace F:=F.add hwt
       refine W.seqR ?_
       refine oN 3 ?_
       refine gF ?_
       refine gF ?_
       refine gF ?_
       refine oN 2 ?_
       refine oK [2,5,6,7,8,9,10,11,12,46] ?_
       refine cF ?_
       by_cases hwk:(w==[108,105,107,101])=true
       ·
        replace F:=F.add hwk
        have hw3:(w==[101,110,100])=false:=by rw [eq_of_beq hwk];rfl
        replace F:=F.add hw3
        by_cases hlk2:(l.length:Int)=2
        ·
         replace F:=F.add hlk2
         obtain ⟨a,b,rfl⟩:=two_of hlk2
         by_cases h0b:ow=[]
         ·
          replace F:=F.add h0b
          refine W.seqR ?_
          refine oN 3 ?_
          refine gT ?_
          refine gT ?_
          refine gT ?_
          refine oN 2 ?_
          refine gT ?_
          refine gT ?_
          refine oN 2 ?_
          refine oK [2,5,6,7,8,9,10,11,12,71] ?_
          refine cF ?_
          refine W.seqR ?_
          refine oN 3 ?_
          refine gF ?_
          refine gF ?_
          refine gF ?_
          refine oN 2 ?_
          refine oK [2,5,6,7,8,10,101] ?_
          refine cF ?_
          refine rE ?_
          refine hK7 _ ?_
          clear hK7 K7
          refine rK [2,5,6,7,8,117] ?_
          refine cT ?_
          refine rKw [2,3,4] ?_
          refine W.ret ?_
          refine br (tr (tr (br (tr ?_))))
          clear hK4 K4 hK2 K2
          refine er true [] [] ?_
          first
          | (rw [rd6_err0 hnl qs hze (qJ.fin (by omega)) h0c hfe (by assumption)];exact ⟨rfl,rfl⟩)
          | (rw [rd6_fin0 hnl qs hze (qJ.fin (by omega)) h0c hfe (by assumption)];exact ⟨rfl,rfl⟩)
          | (rw [rd6_err1 hnl qs hze (qJ.fin (by omega)) h0c hfe (by assumption)];exact ⟨rfl,rfl⟩)
          | (rw [rd6_fin1 hnl qs hze (qJ.fin (by omega)) h0c hfe (by assumption)];exact ⟨congrArg (fun x=>AV.tup [x,I 0,I 0]) (trade_app ow dn cur).symm,rfl⟩)
          | (rw [rd6_long (by omega)];exact ⟨rfl,rfl⟩)
          | (rw [rd6_bad hnl qs (qJ.bad hil qr (step6_a hpn))];exact ⟨rfl,rfl⟩)
          | (rw [rd6_bad hnl qs (qJ.bad hil qr (step6_b qpw hen))];exact ⟨rfl,rfl⟩)
          | (rw [rd6_bad hnl qs (qJ.bad hil qr (step6_n qpw hen2 (by first | exact fun k=>hlt (by rw [k.2];rfl) | exact fun k=>hwt (by rw [k.1];rfl)) (by first | exact fun k=>absurd (k.1.symm.trans (eq_of_beq hwt)) (by decide) | exact fun k=>hlk2 (by rw [k.2.1];rfl) | exact fun k=>k.2.2 h0b | exact fun k=>hwk (by rw [k.1];rfl)) (by first | exact fun k=>absurd (k.1.symm.trans (eq_of_beq hwt)) (by decide) | exact fun k=>absurd (k.1.symm.trans (eq_of_beq hwk)) (by decide) | exact fun k=>hwe (by rw [k.1];rfl) | exact fun k=>hle (by rw [k.2];rfl) | exact fun k=>hae (List.cons.inj k.2).1)))];exact ⟨rfl,rfl⟩)
          | (rw [rd6_open hnl qs (qJ.fin (by omega)) (.inl hfe2)];exact ⟨rfl,rfl⟩)
          | (rw [rd6_open hnl qs (qJ.fin (by omega)) (.inr hze)];exact ⟨rfl,rfl⟩)
         ·
          replace F:=F.add h0b
          have hdl:ow.length=dn.length+1:=(qJ.len h0b).symm
          have hlk:=lkE_some h0b dn cur.length
          have hlt1:(dn.length:Int)<(dn.length:Int)+1:=by omega
          have hgl:∀X:AV,(dn.map (fun x=>turns x)++[X])[dn.length]?=some X:=fun X=>by rw [List.getElem?_append_right (by simp)];simp
          have hsl:∀X Y:AV,(dn.map (fun x=>turns x)++[X]).set dn.length Y=dn.map (fun x=>turns x)++[Y]:=fun X Y=>by rw [List.set_append_right _ _ (by simp)];simp
          replace F:=F.add hdl |>.add hlk |>.add hlt1 |>.add hgl |>.add hsl
          refine W.seqR ?_
          refine oN 3 ?_
          refine gT ?_
          refine gT ?_
          refine gT ?_
          refine oN 2 ?_
          refine gT ?_
          refine gT ?_
          refine oN 2 ?_
          refine oK [2,5,6,7,8,9,10,11,12,71] ?_
          refine cT ?_
          refine wDe 17 [(16,[9016])] [[],[0],[],[],[3],[],[5,3,4],[4,3,5,6],[],[8],[8,9],[],[11],[11,12],[12,11,13,9,8,10],[10,8,9,13,11,12,14],[14,12,11,13,9,8,10,15,6,5,3,4,7],[16,15,14,13,12,11,10,9,8,7,6,5,4,3,2,0,1],[1,0,2,3,4,5,6,7,8,9,10,11,12,13,14,15,16,17]] ?_
          refine dB [([85,86,87,88,89,90,91,92,93,94,95,96,97,98,99],[],[9016]),([85,86,87,88,89,90,91,92,93,94,95,96,97,98,99],[true],[9016]),([83,84,86,87,88,89,90,91,92,93,94,95,96,97,98,99],[false,false],[9016]),([83,84,85,88,91,92,93,94,95,96,97,98],[false,false,false],[]),([83,84,85,88,91,92,93,94,95,96,97,98],[false,false,false,true],[]),([83,84,85,86,87,91,92,93,94,95,96,97,98],[false,false,false,false,false],[]),([83,84,85,91,92,93,94,95,96,97,98],[false,false,false,true,true,true],[]),([83,84,85,91,92,93,94,95,96,97,98],[false,false,false,true,true,true,true],[]),([83,84,85,86,87,88,89,90,94,95,96],[false,false,false,false,false,false,false,false],[]),([83,84,85,86,87,88,89,90,94,95,96],[false,false,false,false,false,false,false,false,true],[]),([83,84,85,86,87,88,89,90,94,95,96],[false,false,false,false,false,false,false,false,true,true],[]),([83,84,85,86,87,88,89,90,91,92,93],[false,false,false,false,false,false,false,false,false,false,false],[]),([83,84,85,86,87,88,89,90,91,92,93],[false,false,false,false,false,false,false,false,false,false,false,true],[]),([83,84,85,86,87,88,89,90,91,92,93],[false,false,false,false,false,false,false,false,false,false,false,true,true],[]),([83,84,85,86,87,88,89,90],[false,false,false,false,false,false,false,false,true,true,true,true,true,true],[]),([83,84,85,86,87,88,89,90],[false,false,false,false,false,false,false,false,true,true,true,true,true,true,true],[])] 1 16 ?_
          refine dAw [83,84,85] [false,false,false,true,true,true,true,true,true,true,true,true,true,true,true,true] [] [9016] ?_
          refine dD ?_
          refine oN 1 ?_
          refine WOps.le (Le.exch (x:=792) (y:=9016) (by simp [hc1,hsp,hnl,htk,hi0,hoi,hci,hc2,hil,hgi,hi1,hpn,hpw,hen,hen2,hwt,hwk,hw3,hlk2,h0b,hdl,hlk,hlt1,hgl,hsl];rfl)) rfl rfl ?_
          refine oN 1 ?_
          refine WOps.endK ?_
          refine hK7 _ ?_
          clear hK7 K7
          refine rK [2,5,6,7,8,117] ?_
          refine cF ?_
          refine W.skip ?_
          refine hK4 _ ?_
          clear hK4 K4
          refine rEw ?_
          refine ⟨(i+1,⟨ow,dn,cur++[(a,b)],false⟩),lf ?_ ?_, ?_,v0⟩
          ·
           exact v1
          ·
           try (simp [Fx.get F])
           all_goals (
            first
            | (simp [lkE];done)
            | (rw [lkE_some (by simp)];simp;done)
            | (rw [lkE_some h0b])
           )
          ·
           first
           | (refine ⟨?_, ?_, ?_,qJ.next hil qr (by have k:=step6_t qpw hen2 hwt (s:=⟨ow,dn,cur,en⟩);simp only [h0a,if_true] at k ⊢;exact k)⟩<;>simp<;>omega)
           | (refine ⟨?_, ?_, ?_,qJ.next hil qr (by have k:=step6_t qpw hen2 hwt (s:=⟨ow,dn,cur,en⟩);simp only [if_neg h0a] at k ⊢;exact k)⟩<;>simp<;>omega)
           | (refine ⟨?_, ?_, ?_,qJ.next hil qr (step6_k qpw hen2 hwk h0b)⟩<;>simp<;>omega)
           | (refine ⟨?_, ?_, ?_,qJ.next hil qr (step6_e qpw hen2 hwe hae)⟩<;>simp<;>omega)
        ·
         replace F:=F.add hlk2
         have hlb:((l.length:Int)==2)=false:=beq_eq_false_iff_ne.2 hlk2
         replace F:=F.add hlb
         refine W.seqR ?_
         refine oN 3 ?_
         refine gT ?_
         refine gT ?_
         refine gT ?_
         refine oN 2 ?_
         refine gF ?_
         refine gF ?_
         refine oN 2 ?_
         refine oK [2,5,6,7,8,9,10,11,12,71] ?_
         refine cF ?_
         refine W.seqR ?_
         refine oN 3 ?_
         refine gF ?_
         refine gF ?_
         refine gF ?_
         refine oN 2 ?_
         refine oK [2,5,6,7,8,10,101] ?_
         refine cF ?_
         refine rE ?_
         refine hK7 _ ?_
         clear hK7 K7
         refine rK [2,5,6,7,8,117] ?_
         refine cT ?_
         refine rKw [2,3,4] ?_
         refine W.ret ?_
         refine br (tr (tr (br (tr ?_))))
         clear hK4 K4 hK2 K2
         refine er true [] [] ?_
         first
         | (rw [rd6_err0 hnl qs hze (qJ.fin (by omega)) h0c hfe (by assumption)];exact ⟨rfl,rfl⟩)
         | (rw [rd6_fin0 hnl qs hze (qJ.fin (by omega)) h0c hfe (by assumption)];exact ⟨rfl,rfl⟩)
         | (rw [rd6_err1 hnl qs hze (qJ.fin (by omega)) h0c hfe (by assumption)];exact ⟨rfl,rfl⟩)
         | (rw [rd6_fin1 hnl qs hze (qJ.fin (by omega)) h0c hfe (by assumption)];exact ⟨congrArg (fun x=>AV.tup [x,I 0,I 0]) (trade_app ow dn cur).symm,rfl⟩)
         | (rw [rd6_long (by omega)];exact ⟨rfl,rfl⟩)
         | (rw [rd6_bad hnl qs (qJ.bad hil qr (step6_a hpn))];exact ⟨rfl,rfl⟩)
         | (rw [rd6_bad hnl qs (qJ.bad hil qr (step6_b qpw hen))];exact ⟨rfl,rfl⟩)
         | (rw [rd6_bad hnl qs (qJ.bad hil qr (step6_n qpw hen2 (by first | exact fun k=>hlt (by rw [k.2];rfl) | exact fun k=>hwt (by rw [k.1];rfl)) (by first | exact fun k=>absurd (k.1.symm.trans (eq_of_beq hwt)) (by decide) | exact fun k=>hlk2 (by rw [k.2.1];rfl) | exact fun k=>k.2.2 h0b | exact fun k=>hwk (by rw [k.1];rfl)) (by first | exact fun k=>absurd (k.1.symm.trans (eq_of_beq hwt)) (by decide) | exact fun k=>absurd (k.1.symm.trans (eq_of_beq hwk)) (by decide) | exact fun k=>hwe (by rw [k.1];rfl) | exact fun k=>hle (by rw [k.2];rfl) | exact fun k=>hae (List.cons.inj k.2).1)))];exact ⟨rfl,rfl⟩)
         | (rw [rd6_open hnl qs (qJ.fin (by omega)) (.inl hfe2)];exact ⟨rfl,rfl⟩)
         | (rw [rd6_open hnl qs (qJ.fin (by omega)) (.inr hze)];exact ⟨rfl,rfl⟩)
       ·
        replace F:=F.add hwk
        refine W.seqR ?_
        refine oN 3 ?_
        refine gF ?_
        refine gF ?_
        refine gF ?_
        refine oN 2 ?_
        refine gF ?_
        refine gF ?_
        refine oN 2 ?_
        refine oK [2,5,6,7,8,9,10,11,12,71] ?_
        refine cF ?_
        by_cases hwe:(w==[101,110,100])=true
        ·
         replace F:=F.add hwe
         by_cases hle:(l.length:Int)=1
         ·
          replace F:=F.add hle
          obtain ⟨a,rfl⟩:=one_of hle
          refine W.seqR ?_
          refine oN 3 ?_
          refine gT ?_
          refine gT ?_
          refine gT ?_
          refine oN 2 ?_
          refine oK [2,5,6,7,8,10,101] ?_
          refine cT ?_
          by_cases hae:a=(ow.length:Int)
          ·
           replace F:=F.add hae
           refine wDe 8 [] [[],[0],[0,1],[],[3],[3,4],[4,3,5,1,0,2],[],[7,2,0,1,5,3,4,6]] ?_
           refine dB [([112,113,114,7],[],[]),([112,113,114,7],[true],[]),([112,113,114,7],[true,true],[]),([109,110,111,7],[false,false,false],[]),([109,110,111,7],[false,false,false,true],[]),([109,110,111,7],[false,false,false,true,true],[]),([7],[true,true,true,true,true,true],[]),([109,110,111,112,113,114,115],[false,false,false,false,false,false,false],[])] 0 8 ?_
           refine dD ?_
           refine oN 1 ?_
           refine WOps.endK ?_
           refine hK7 _ ?_
           clear hK7 K7
           refine rK [2,5,6,7,8,117] ?_
           refine cF ?_
           refine W.skip ?_
           refine hK4 _ ?_
           clear hK4 K4
           refine rEw ?_
           refine ⟨(i+1,⟨ow,dn,cur,true⟩),lf ?_ ?_, ?_,v0⟩
           ·
            exact v1
           ·
            try (simp [Fx.get F])
            all_goals (
             first
             | (simp [lkE];done)
             | (rw [lkE_some (by simp)];simp;done)
             | (rw [lkE_some h0b])
            )
           ·
            first
            | (refine ⟨?_, ?_, ?_,qJ.next hil qr (by have k:=step6_t qpw hen2 hwt (s:=⟨ow,dn,cur,en⟩);simp only [h0a,if_true] at k ⊢;exact k)⟩<;>simp<;>omega)
            | (refine ⟨?_, ?_, ?_,qJ.next hil qr (by have k:=step6_t qpw hen2 hwt (s:=⟨ow,dn,cur,en⟩);simp only [if_neg h0a] at k ⊢;exact k)⟩<;>simp<;>omega)
            | (refine ⟨?_, ?_, ?_,qJ.next hil qr (step6_k qpw hen2 hwk h0b)⟩<;>simp<;>omega)
            | (refine ⟨?_, ?_, ?_,qJ.next hil qr (step6_e qpw hen2 hwe hae)⟩<;>simp<;>omega)
          ·
           replace F:=F.add hae
           have hab:(a==(ow.length:Int))=false:=beq_eq_false_iff_ne.2 hae
           replace F:=F.add hab
           refine wDe 8 [] [[],[0],[0,1],[],[3],[3,4],[4,3,5,1,0,2],[],[7,2,0,1,5,3,4,6]] ?_
           refine dB [([112,113,114,7],[],[]),([112,113,114,7],[true],[]),([112,113,114,7],[true,true],[]),([109,110,111,7],[false,false,false],[]),([109,110,111,7],[false,false,false,true],[]),([109,110,111,7],[false,false,false,true,true],[]),([7],[true,true,true,true,true,true],[]),([109,110,111,112,113,114,115],[false,false,false,false,false,false,false],[])] 0 8 ?_
           refine dD ?_
           refine oN 1 ?_
           refine WOps.endK ?_
           refine hK7 _ ?_
           clear hK7 K7
           refine rK [2,5,6,7,8,117] ?_
           refine cT ?_
           refine rKw [2,3,4] ?_
           refine W.ret ?_
           refine br (tr (tr (br (tr ?_))))
           clear hK4 K4 hK2 K2
           refine er true [] [] ?_
           first
           | (rw [rd6_err0 hnl qs hze (qJ.fin (by omega)) h0c hfe (by assumption)];exact ⟨rfl,rfl⟩)
           | (rw [rd6_fin0 hnl qs hze (qJ.fin (by omega)) h0c hfe (by assumption)];exact ⟨rfl,rfl⟩)
           | (rw [rd6_err1 hnl qs hze (qJ.fin (by omega)) h0c hfe (by assumption)];exact ⟨rfl,rfl⟩)
           | (rw [rd6_fin1 hnl qs hze (qJ.fin (by omega)) h0c hfe (by assumption)];exact ⟨congrArg (fun x=>AV.tup [x,I 0,I 0]) (trade_app ow dn cur).symm,rfl⟩)
           | (rw [rd6_long (by omega)];exact ⟨rfl,rfl⟩)
           | (rw [rd6_bad hnl qs (qJ.bad hil qr (step6_a hpn))];exact ⟨rfl,rfl⟩)
           | (rw [rd6_bad hnl qs (qJ.bad hil qr (step6_b qpw hen))];exact ⟨rfl,rfl⟩)
           | (rw [rd6_bad hnl qs (qJ.bad hil qr (step6_n qpw hen2 (by first | exact fun k=>hlt (by rw [k.2];rfl) | exact fun k=>hwt (by rw [k.1];rfl)) (by first | exact fun k=>absurd (k.1.symm.trans (eq_of_beq hwt)) (by decide) | exact fun k=>hlk2 (by rw [k.2.1];rfl) | exact fun k=>k.2.2 h0b | exact fun k=>hwk (by rw [k.1];rfl)) (by first | exact fun k=>absurd (k.1.symm.trans (eq_of_beq hwt)) (by decide) | exact fun k=>absurd (k.1.symm.trans (eq_of_beq hwk)) (by decide) | exact fun k=>hwe (by rw [k.1];rfl) | exact fun k=>hle (by rw [k.2];rfl) | exact fun k=>hae (List.cons.inj k.2).1)))];exact ⟨rfl,rfl⟩)
           | (rw [rd6_open hnl qs (qJ.fin (by omega)) (.inl hfe2)];exact ⟨rfl,rfl⟩)
           | (rw [rd6_open hnl qs (qJ.fin (by omega)) (.inr hze)];exact ⟨rfl,rfl⟩)
         ·
          replace F:=F.add hle
          have hlb:((l.length:Int)==1)=false:=beq_eq_false_iff_ne.2 hle
          replace F:=F.add hlb
          refine W.seqR ?_
          refine oN 3 ?_
          refine gT ?_
          refine gT ?_
          refine gT ?_
          refine oN 2 ?_
          refine oK [2,5,6,7,8,10,101] ?_
          refine cF ?_
          refine rE ?_
          refine hK7 _ ?_
          clear hK7 K7
          refine rK [2,5,6,7,8,117] ?_
          refine cT ?_
          refine rKw [2,3,4] ?_
          refine W.ret ?_
          refine br (tr (tr (br (tr ?_))))
          clear hK4 K4 hK2 K2
          refine er true [] [] ?_
          first
          | (rw [rd6_err0 hnl qs hze (qJ.fin (by omega)) h0c hfe (by assumption)];exact ⟨rfl,rfl⟩)
          | (rw [rd6_fin0 hnl qs hze (qJ.fin (by omega)) h0c hfe (by assumption)];exact ⟨rfl,rfl⟩)
          | (rw [rd6_err1 hnl qs hze (qJ.fin (by omega)) h0c hfe (by assumption)];exact ⟨rfl,rfl⟩)
          | (rw [rd6_fin1 hnl qs hze (qJ.fin (by omega)) h0c hfe (by assumption)];exact ⟨congrArg (fun x=>AV.tup [x,I 0,I 0]) (trade_app ow dn cur).symm,rfl⟩)
          | (rw [rd6_long (by omega)];exact ⟨rfl,rfl⟩)
          | (rw [rd6_bad hnl qs (qJ.bad hil qr (step6_a hpn))];exact ⟨rfl,rfl⟩)
          | (rw [rd6_bad hnl qs (qJ.bad hil qr (step6_b qpw hen))];exact ⟨rfl,rfl⟩)
          | (rw [rd6_bad hnl qs (qJ.bad hil qr (step6_n qpw hen2 (by first | exact fun k=>hlt (by rw [k.2];rfl) | exact fun k=>hwt (by rw [k.1];rfl)) (by first | exact fun k=>absurd (k.1.symm.trans (eq_of_beq hwt)) (by decide) | exact fun k=>hlk2 (by rw [k.2.1];rfl) | exact fun k=>k.2.2 h0b | exact fun k=>hwk (by rw [k.1];rfl)) (by first | exact fun k=>absurd (k.1.symm.trans (eq_of_beq hwt)) (by decide) | exact fun k=>absurd (k.1.symm.trans (eq_of_beq hwk)) (by decide) | exact fun k=>hwe (by rw [k.1];rfl) | exact fun k=>hle (by rw [k.2];rfl) | exact fun k=>hae (List.cons.inj k.2).1)))];exact ⟨rfl,rfl⟩)
          | (rw [rd6_open hnl qs (qJ.fin (by omega)) (.inl hfe2)];exact ⟨rfl,rfl⟩)
          | (rw [rd6_open hnl qs (qJ.fin (by omega)) (.inr hze)];exact ⟨rfl,rfl⟩)
        ·
         replace F:=F.add hwe
         refine W.seqR ?_
         refine oN 3 ?_
         refine gF ?_
         refine gF ?_
         refine gF ?_
         refine oN 2 ?_
         refine oK [2,5,6,7,8,10,101] ?_
         refine cF ?_
         refine rE ?_
         refine hK7 _ ?_
         clear hK7 K7
         refine rK [2,5,6,7,8,117] ?_
         refine cT ?_
         refine rKw [2,3,4] ?_
         refine W.ret ?_
         refine br (tr (tr (br (tr ?_))))
         clear hK4 K4 hK2 K2
         refine er true [] [] ?_
         first
         | (rw [rd6_err0 hnl qs hze (qJ.fin (by omega)) h0c hfe (by assumption)];exact ⟨rfl,rfl⟩)
         | (rw [rd6_fin0 hnl qs hze (qJ.fin (by omega)) h0c hfe (by assumption)];exact ⟨rfl,rfl⟩)
         | (rw [rd6_err1 hnl qs hze (qJ.fin (by omega)) h0c hfe (by assumption)];exact ⟨rfl,rfl⟩)
         | (rw [rd6_fin1 hnl qs hze (qJ.fin (by omega)) h0c hfe (by assumption)];exact ⟨congrArg (fun x=>AV.tup [x,I 0,I 0]) (trade_app ow dn cur).symm,rfl⟩)
         | (rw [rd6_long (by omega)];exact ⟨rfl,rfl⟩)
         | (rw [rd6_bad hnl qs (qJ.bad hil qr (step6_a hpn))];exact ⟨rfl,rfl⟩)
         | (rw [rd6_bad hnl qs (qJ.bad hil qr (step6_b qpw hen))];exact ⟨rfl,rfl⟩)
         | (rw [rd6_bad hnl qs (qJ.bad hil qr (step6_n qpw hen2 (by first | exact fun k=>hlt (by rw [k.2];rfl) | exact fun k=>hwt (by rw [k.1];rfl)) (by first | exact fun k=>absurd (k.1.symm.trans (eq_of_beq hwt)) (by decide) | exact fun k=>hlk2 (by rw [k.2.1];rfl) | exact fun k=>k.2.2 h0b | exact fun k=>hwk (by rw [k.1];rfl)) (by first | exact fun k=>absurd (k.1.symm.trans (eq_of_beq hwt)) (by decide) | exact fun k=>absurd (k.1.symm.trans (eq_of_beq hwk)) (by decide) | exact fun k=>hwe (by rw [k.1];rfl) | exact fun k=>hle (by rw [k.2];rfl) | exact fun k=>hae (List.cons.inj k.2).1)))];exact ⟨rfl,rfl⟩)
         | (rw [rd6_open hnl qs (qJ.fin (by omega)) (.inl hfe2)];exact ⟨rfl,rfl⟩)
         | (rw [rd6_open hnl qs (qJ.fin (by omega)) (.inr hze)];exact ⟨rfl,rfl⟩)
   ·
    try simp at hc2
    replace F:=F.add hc2
    refine W.exit ?_
    refine hK2 _ ?_
    clear hK3 K3 hK2 K2
    refine W.seqk fun K8 hK8=>?_
    have hie:i=R.length:=by omega
    have hRlt:(R.length:Int)<(R.length:Int)+1:=by omega
    have hgR:(R.map txtA++[txtA z])[R.length]?=some (txtA z):=by rw [List.getElem?_append_right (by simp)];simp
    replace F:=F.add hie |>.add hRlt |>.add hgR
    by_cases hfe:en=true
    ·
     replace F:=F.add hfe
     by_cases hze:z=[]
     ·
      replace F:=F.add hze
      refine W.seqR ?_
      refine oN 3 ?_
      refine gT ?_
      refine gT ?_
      refine gT ?_
      refine gTw ?_
      refine gT ?_
      refine gT ?_
      refine gT ?_
      refine oN 1 ?_
      refine oK [2,5,6,131] ?_
      refine cF ?_
      refine W.skip ?_
      refine hK8 _ ?_
      clear hK8 K8
      refine W.seqk fun K9 hK9=>?_
      by_cases h0c:ow=[]
      ·
       replace F:=F.add h0c
       refine W.weaken (Le.freeze (id:=9016) (by simp [h0c];rfl)) ?_
       refine W.weaken (Le.tight (id:=9008) (by simp [h0c];rfl)) ?_
       refine W.weaken (Le.freeze (id:=9008) (by simp [h0c];rfl)) ?_
       refine W.weaken (Le.freeze (id:=9000) (by simp [h0c];rfl)) ?_
       refine W.seqR ?_
       refine oN 1 ?_
       refine oC [] ?_
       refine ct (W6.rCheck_ok [] []) ?_
       refine oN 1 ?_
       refine oK [2,6,13] ?_
       refine rK [2,6,13,138] ?_
       refine it (fun hc33=>?_) (fun hc33=>?_)
       ·
        try simp at hc33
        replace F:=F.add hc33
        refine rK [2,3,4] ?_
        refine W.ret ?_
        refine tr ?_
        clear hK9 K9
        refine er true [] [] ?_
        first
        | (rw [rd6_err0 hnl qs hze (qJ.fin (by omega)) h0c hfe (by assumption)];exact ⟨rfl,rfl⟩)
        | (rw [rd6_fin0 hnl qs hze (qJ.fin (by omega)) h0c hfe (by assumption)];exact ⟨rfl,rfl⟩)
        | (rw [rd6_err1 hnl qs hze (qJ.fin (by omega)) h0c hfe (by assumption)];exact ⟨rfl,rfl⟩)
        | (rw [rd6_fin1 hnl qs hze (qJ.fin (by omega)) h0c hfe (by assumption)];exact ⟨congrArg (fun x=>AV.tup [x,I 0,I 0]) (trade_app ow dn cur).symm,rfl⟩)
        | (rw [rd6_long (by omega)];exact ⟨rfl,rfl⟩)
        | (rw [rd6_bad hnl qs (qJ.bad hil qr (step6_a hpn))];exact ⟨rfl,rfl⟩)
        | (rw [rd6_bad hnl qs (qJ.bad hil qr (step6_b qpw hen))];exact ⟨rfl,rfl⟩)
        | (rw [rd6_bad hnl qs (qJ.bad hil qr (step6_n qpw hen2 (by first | exact fun k=>hlt (by rw [k.2];rfl) | exact fun k=>hwt (by rw [k.1];rfl)) (by first | exact fun k=>absurd (k.1.symm.trans (eq_of_beq hwt)) (by decide) | exact fun k=>hlk2 (by rw [k.2.1];rfl) | exact fun k=>k.2.2 h0b | exact fun k=>hwk (by rw [k.1];rfl)) (by first | exact fun k=>absurd (k.1.symm.trans (eq_of_beq hwt)) (by decide) | exact fun k=>absurd (k.1.symm.trans (eq_of_beq hwk)) (by decide) | exact fun k=>hwe (by rw [k.1];rfl) | exact fun k=>hle (by rw [k.2];rfl) | exact fun k=>hae (List.cons.inj k.2).1)))];exact ⟨rfl,rfl⟩)
        | (rw [rd6_open hnl qs (qJ.fin (by omega)) (.inl hfe2)];exact ⟨rfl,rfl⟩)
        | (rw [rd6_open hnl qs (qJ.fin (by omega)) (.inr hze)];exact ⟨rfl,rfl⟩)
       ·
        try simp at hc33
        replace F:=F.add hc33
        refine W.skip ?_
        refine hK9 _ ?_
        clear hK9 K9
        refine rK [2,3,4] ?_
        refine W.ret ?_
        refine er true [] [] ?_
        first
        | (rw [rd6_err0 hnl qs hze (qJ.fin (by omega)) h0c hfe (by assumption)];exact ⟨rfl,rfl⟩)
        | (rw [rd6_fin0 hnl qs hze (qJ.fin (by omega)) h0c hfe (by assumption)];exact ⟨rfl,rfl⟩)
        | (rw [rd6_err1 hnl qs hze (qJ.fin (by omega)) h0c hfe (by assumption)];exact ⟨rfl,rfl⟩)
        | (rw [rd6_fin1 hnl qs hze (qJ.fin (by omega)) h0c hfe (by assumption)];exact ⟨congrArg (fun x=>AV.tup [x,I 0,I 0]) (trade_app ow dn cur).symm,rfl⟩)
        | (rw [rd6_long (by omega)];exact ⟨rfl,rfl⟩)
        | (rw [rd6_bad hnl qs (qJ.bad hil qr (step6_a hpn))];exact ⟨rfl,rfl⟩)
        | (rw [rd6_bad hnl qs (qJ.bad hil qr (step6_b qpw hen))];exact ⟨rfl,rfl⟩)
        | (rw [rd6_bad hnl qs (qJ.bad hil qr (step6_n qpw hen2 (by first | exact fun k=>hlt (by rw [k.2];rfl) | exact fun k=>hwt (by rw [k.1];rfl)) (by first | exact fun k=>absurd (k.1.symm.trans (eq_of_beq hwt)) (by decide) | exact fun k=>hlk2 (by rw [k.2.1];rfl) | exact fun k=>k.2.2 h0b | exact fun k=>hwk (by rw [k.1];rfl)) (by first | exact fun k=>absurd (k.1.symm.trans (eq_of_beq hwt)) (by decide) | exact fun k=>absurd (k.1.symm.trans (eq_of_beq hwk)) (by decide) | exact fun k=>hwe (by rw [k.1];rfl) | exact fun k=>hle (by rw [k.2];rfl) | exact fun k=>hae (List.cons.inj k.2).1)))];exact ⟨rfl,rfl⟩)
        | (rw [rd6_open hnl qs (qJ.fin (by omega)) (.inl hfe2)];exact ⟨rfl,rfl⟩)
        | (rw [rd6_open hnl qs (qJ.fin (by omega)) (.inr hze)];exact ⟨rfl,rfl⟩)
      ·
       replace F:=F.add h0c
       have hdl:ow.length=dn.length+1:=(qJ.len h0c).symm
       have hlk:=lkE_some h0c dn cur.length
       have hct:List.take cur.length (cur.map T)=cur.map T:=List.take_of_length_le (by simp)
       have hdt:AV.isDataL (dn.map (fun x=>turns x)++[.imm (cur.map T)])=true:=data_app (data_tu dn) rfl
       have hti1:List.take (dn.length+1) (ow.map T)=ow.map T:=List.take_of_length_le (by simp [hdl])
       have hti2:List.take (dn.length+1) (dn.map (fun x=>turns x)++[.imm (cur.map T)])=dn.map (fun x=>turns x)++[.imm (cur.map T)]:=List.take_of_length_le (by simp)
       refine W.weaken (Le.freeze (id:=9016) (by simp [hlk,hdl,hct];rfl)) ?_
       refine W.weaken (Le.tight (id:=9008) (by simp [hlk,hdl,hct,hdt];rfl)) ?_
       refine W.weaken (Le.freeze (id:=9008) (by simp [hlk,hdl,hct,hdt];rfl)) ?_
       refine W.weaken (Le.freeze (id:=9000) (by simp [hlk,hdl,hct,hdt];rfl)) ?_
       replace F:=F.add hdl |>.add hlk |>.add hct |>.add hdt |>.add hti1 |>.add hti2
       refine W.seqR ?_
       refine oN 1 ?_
       refine oC [] ?_
       refine ct (rCheck_app ow dn cur) ?_
       refine oN 1 ?_
       refine oK [2,6,13] ?_
       refine rK [2,6,13,138] ?_
       refine it (fun hc34=>?_) (fun hc34=>?_)
       ·
        try simp at hc34
        replace F:=F.add hc34
        refine rK [2,3,4] ?_
        refine W.ret ?_
        refine tr ?_
        clear hK9 K9
        refine er true [] [] ?_
        first
        | (rw [rd6_err0 hnl qs hze (qJ.fin (by omega)) h0c hfe (by assumption)];exact ⟨rfl,rfl⟩)
        | (rw [rd6_fin0 hnl qs hze (qJ.fin (by omega)) h0c hfe (by assumption)];exact ⟨rfl,rfl⟩)
        | (rw [rd6_err1 hnl qs hze (qJ.fin (by omega)) h0c hfe (by assumption)];exact ⟨rfl,rfl⟩)
        | (rw [rd6_fin1 hnl qs hze (qJ.fin (by omega)) h0c hfe (by assumption)];exact ⟨congrArg (fun x=>AV.tup [x,I 0,I 0]) (trade_app ow dn cur).symm,rfl⟩)
        | (rw [rd6_long (by omega)];exact ⟨rfl,rfl⟩)
        | (rw [rd6_bad hnl qs (qJ.bad hil qr (step6_a hpn))];exact ⟨rfl,rfl⟩)
        | (rw [rd6_bad hnl qs (qJ.bad hil qr (step6_b qpw hen))];exact ⟨rfl,rfl⟩)
        | (rw [rd6_bad hnl qs (qJ.bad hil qr (step6_n qpw hen2 (by first | exact fun k=>hlt (by rw [k.2];rfl) | exact fun k=>hwt (by rw [k.1];rfl)) (by first | exact fun k=>absurd (k.1.symm.trans (eq_of_beq hwt)) (by decide) | exact fun k=>hlk2 (by rw [k.2.1];rfl) | exact fun k=>k.2.2 h0b | exact fun k=>hwk (by rw [k.1];rfl)) (by first | exact fun k=>absurd (k.1.symm.trans (eq_of_beq hwt)) (by decide) | exact fun k=>absurd (k.1.symm.trans (eq_of_beq hwk)) (by decide) | exact fun k=>hwe (by rw [k.1];rfl) | exact fun k=>hle (by rw [k.2];rfl) | exact fun k=>hae (List.cons.inj k.2).1)))];exact ⟨rfl,rfl⟩)
        | (rw [rd6_open hnl qs (qJ.fin (by omega)) (.inl hfe2)];exact ⟨rfl,rfl⟩)
        | (rw [rd6_open hnl qs (qJ.fin (by omega)) (.inr hze)];exact ⟨rfl,rfl⟩)
       ·
        try simp at hc34
        replace F:=F.add hc34
        refine W.skip ?_
        refine hK9 _ ?_
        clear hK9 K9
        refine rK [2,3,4] ?_
        refine W.ret ?_
        refine er true [] [] ?_
        first
        | (rw [rd6_err0 hnl qs hze (qJ.fin (by omega)) h0c hfe (by assumption)];exact ⟨rfl,rfl⟩)
        | (rw [rd6_fin0 hnl qs hze (qJ.fin (by omega)) h0c hfe (by assumption)];exact ⟨rfl,rfl⟩)
        | (rw [rd6_err1 hnl qs hze (qJ.fin (by omega)) h0c hfe (by assumption)];exact ⟨rfl,rfl⟩)
        | (rw [rd6_fin1 hnl qs hze (qJ.fin (by omega)) h0c hfe (by assumption)];exact ⟨congrArg (fun x=>AV.tup [x,I 0,I 0]) (trade_app ow dn cur).symm,rfl⟩)
        | (rw [rd6_long (by omega)];exact ⟨rfl,rfl⟩)
        | (rw [rd6_bad hnl qs (qJ.bad hil qr (step6_a hpn))];exact ⟨rfl,rfl⟩)
        | (rw [rd6_bad hnl qs (qJ.bad hil qr (step6_b qpw hen))];exact ⟨rfl,rfl⟩)
        | (rw [rd6_bad hnl qs (qJ.bad hil qr (step6_n qpw hen2 (by first | exact fun k=>hlt (by rw [k.2];rfl) | exact fun k=>hwt (by rw [k.1];rfl)) (by first | exact fun k=>absurd (k.1.symm.trans (eq_of_beq hwt)) (by decide) | exact fun k=>hlk2 (by rw [k.2.1];rfl) | exact fun k=>k.2.2 h0b | exact fun k=>hwk (by rw [k.1];rfl)) (by first | exact fun k=>absurd (k.1.symm.trans (eq_of_beq hwt)) (by decide) | exact fun k=>absurd (k.1.symm.trans (eq_of_beq hwk)) (by decide) | exact fun k=>hwe (by rw [k.1];rfl) | exact fun k=>hle (by rw [k.2];rfl) | exact fun k=>hae (List.cons.inj k.2).1)))];exact ⟨rfl,rfl⟩)
        | (rw [rd6_open hnl qs (qJ.fin (by omega)) (.inl hfe2)];exact ⟨rfl,rfl⟩)
        | (rw [rd6_open hnl qs (qJ.fin (by omega)) (.inr hze)];exact ⟨rfl,rfl⟩)
     ·
      replace F:=F.add hze
      obtain ⟨c0,z0,rfl⟩:=List.exists_cons_of_ne_nil hze
      refine W.seqR ?_
      refine oN 3 ?_
      refine gT ?_
      refine gT ?_
      refine gT ?_
      refine gTw ?_
      refine gT ?_
      refine gT ?_
      refine gT ?_
      refine oN 1 ?_
      refine oK [2,5,6,131] ?_
      refine cT ?_
      refine rK [2,3,4] ?_
      refine W.ret ?_
      refine tr ?_
      clear hK8 K8
      refine er true [] [] ?_
      first
      | (rw [rd6_err0 hnl qs hze (qJ.fin (by omega)) h0c hfe (by assumption)];exact ⟨rfl,rfl⟩)
      | (rw [rd6_fin0 hnl qs hze (qJ.fin (by omega)) h0c hfe (by assumption)];exact ⟨rfl,rfl⟩)
      | (rw [rd6_err1 hnl qs hze (qJ.fin (by omega)) h0c hfe (by assumption)];exact ⟨rfl,rfl⟩)
      | (rw [rd6_fin1 hnl qs hze (qJ.fin (by omega)) h0c hfe (by assumption)];exact ⟨congrArg (fun x=>AV.tup [x,I 0,I 0]) (trade_app ow dn cur).symm,rfl⟩)
      | (rw [rd6_long (by omega)];exact ⟨rfl,rfl⟩)
      | (rw [rd6_bad hnl qs (qJ.bad hil qr (step6_a hpn))];exact ⟨rfl,rfl⟩)
      | (rw [rd6_bad hnl qs (qJ.bad hil qr (step6_b qpw hen))];exact ⟨rfl,rfl⟩)
      | (rw [rd6_bad hnl qs (qJ.bad hil qr (step6_n qpw hen2 (by first | exact fun k=>hlt (by rw [k.2];rfl) | exact fun k=>hwt (by rw [k.1];rfl)) (by first | exact fun k=>absurd (k.1.symm.trans (eq_of_beq hwt)) (by decide) | exact fun k=>hlk2 (by rw [k.2.1];rfl) | exact fun k=>k.2.2 h0b | exact fun k=>hwk (by rw [k.1];rfl)) (by first | exact fun k=>absurd (k.1.symm.trans (eq_of_beq hwt)) (by decide) | exact fun k=>absurd (k.1.symm.trans (eq_of_beq hwk)) (by decide) | exact fun k=>hwe (by rw [k.1];rfl) | exact fun k=>hle (by rw [k.2];rfl) | exact fun k=>hae (List.cons.inj k.2).1)))];exact ⟨rfl,rfl⟩)
      | (rw [rd6_open hnl qs (qJ.fin (by omega)) (.inl hfe2)];exact ⟨rfl,rfl⟩)
      | (rw [rd6_open hnl qs (qJ.fin (by omega)) (.inr hze)];exact ⟨rfl,rfl⟩)
    ·
     replace F:=F.add hfe
     have hfe2:en=false:=by simpa using hfe
     replace F:=F.add hfe2
     refine W.seqR ?_
     refine oN 3 ?_
     refine gF ?_
     refine gF ?_
     refine gF ?_
     refine gF ?_
     refine gF ?_
     refine gF ?_
     refine gF ?_
     refine oN 1 ?_
     refine oK [2,5,6,131] ?_
     refine cT ?_
     refine rK [2,3,4] ?_
     refine W.ret ?_
     refine tr ?_
     clear hK8 K8
     refine er true [] [] ?_
     first
     | (rw [rd6_err0 hnl qs hze (qJ.fin (by omega)) h0c hfe (by assumption)];exact ⟨rfl,rfl⟩)
     | (rw [rd6_fin0 hnl qs hze (qJ.fin (by omega)) h0c hfe (by assumption)];exact ⟨rfl,rfl⟩)
     | (rw [rd6_err1 hnl qs hze (qJ.fin (by omega)) h0c hfe (by assumption)];exact ⟨rfl,rfl⟩)
     | (rw [rd6_fin1 hnl qs hze (qJ.fin (by omega)) h0c hfe (by assumption)];exact ⟨congrArg (fun x=>AV.tup [x,I 0,I 0]) (trade_app ow dn cur).symm,rfl⟩)
     | (rw [rd6_long (by omega)];exact ⟨rfl,rfl⟩)
     | (rw [rd6_bad hnl qs (qJ.bad hil qr (step6_a hpn))];exact ⟨rfl,rfl⟩)
     | (rw [rd6_bad hnl qs (qJ.bad hil qr (step6_b qpw hen))];exact ⟨rfl,rfl⟩)
     | (rw [rd6_bad hnl qs (qJ.bad hil qr (step6_n qpw hen2 (by first | exact fun k=>hlt (by rw [k.2];rfl) | exact fun k=>hwt (by rw [k.1];rfl)) (by first | exact fun k=>absurd (k.1.symm.trans (eq_of_beq hwt)) (by decide) | exact fun k=>hlk2 (by rw [k.2.1];rfl) | exact fun k=>k.2.2 h0b | exact fun k=>hwk (by rw [k.1];rfl)) (by first | exact fun k=>absurd (k.1.symm.trans (eq_of_beq hwt)) (by decide) | exact fun k=>absurd (k.1.symm.trans (eq_of_beq hwk)) (by decide) | exact fun k=>hwe (by rw [k.1];rfl) | exact fun k=>hle (by rw [k.2];rfl) | exact fun k=>hae (List.cons.inj k.2).1)))];exact ⟨rfl,rfl⟩)
     | (rw [rd6_open hnl qs (qJ.fin (by omega)) (.inl hfe2)];exact ⟨rfl,rfl⟩)
     | (rw [rd6_open hnl qs (qJ.fin (by omega)) (.inr hze)];exact ⟨rfl,rfl⟩)
end
end Go.Sim
