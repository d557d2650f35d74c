/- Benches with few facts. -/
import Derived.Test.YtojjfnhjmfokhaaNc
namespace Go.Sim
open Go.Proofs
set_option maxRecDepth 100000
set_option linter.unusedSimpArgs false
set_option linter.unusedVariables false
attribute [-simp] List.map_set List.map_take List.map_drop
attribute [simp] spn_eta
def capM (m:Mas):Mas:=⟨m.nom,⟨m.off.lo,min m.off.hi (m.off.lo+4)⟩⟩
def capS (s:Scl):Scl:=⟨⟨s.fst.lo,min s.fst.hi (s.fst.lo+4)⟩,⟨s.dri.lo,min s.dri.hi (s.dri.lo+2)⟩⟩
def capN (ms:List Mas) (i:Nat):List Mas:=(ms.take i).map capM++ms.drop i
theorem capN_full (ms:List Mas):capN ms ms.length=ms.map capM:=by unfold capN;rw [List.take_length,List.drop_length,List.append_nil]
theorem capN_len (ms:List Mas){i:Nat}(h:i≤ms.length):(capN ms i).length=ms.length:=by unfold capN;rw [List.length_append,List.length_map,List.length_take,List.length_drop];omega
theorem capN_at {ms:List Mas}{i:Nat}(h:i<ms.length):(capN ms i)[i]?=some ms[i]:=by
  unfold capN
  rw [List.getElem?_append_right (by rw [List.length_map,List.length_take];omega),List.length_map,List.length_take,Nat.min_eq_left (by omega),Nat.sub_self,List.getElem?_drop]
  simp [h]
theorem capN_set {ms:List Mas}{i:Nat}(h:i<ms.length):(capN ms i).set i (capM ms[i])=capN ms (i+1):=by
  unfold capN
  have hl:((ms.take i).map capM).length=i:=by rw [List.length_map,List.length_take];omega
  rw [List.set_append_right _ _ (by omega),hl,Nat.sub_self,List.drop_eq_getElem_cons h,List.set_cons_zero,List.take_succ_eq_append_getElem h,List.map_append,List.append_assoc]
  rfl
def fewB (b:Ben):Ben:=⟨b.mas.map capM,b.wei,b.scl.map capS,b.tri,b.days⟩
theorem few_made {b:Ben}{p q r d:Nat}(h:MadeB b p q r d):MadeB (fewB b) p q r d:=by
  have hv:=h.ok
  refine ⟨⟨by simpa [fewB] using hv.m1,by simpa [fewB] using hv.m5,fun m hm=>?_,hv.w6,fun w hw=>?_,by simpa [fewB] using hv.s1,by simpa [fewB] using hv.s3,fun s hs=>?_,hv.days,hv.t6,fun t ht=>?_⟩,by simpa [fewB] using h.mas,by simpa [fewB] using h.scl,h.wei,h.tri,h.days,fun m hm=>?_,fun s hs=>?_⟩
  · obtain ⟨m0,k,rfl⟩:=List.mem_map.1 hm
    have:=hv.mas m0 k
    unfold capM
    dsimp only
    omega
  · have:=hv.wei w hw
    simpa [fewB] using this
  · obtain ⟨s0,k,rfl⟩:=List.mem_map.1 hs
    have:=hv.scl s0 k
    unfold capS
    dsimp only
    omega
  · have:=hv.tri t ht
    simpa [fewB] using this
  · obtain ⟨m0,k,rfl⟩:=List.mem_map.1 hm
    have:=h.small.1 m0 k
    unfold capM
    dsimp only
    omega
  · obtain ⟨s0,k,rfl⟩:=List.mem_map.1 hs
    have k2:=h.small.2 s0 k
    have a:=k2.fst
    have c:=k2.dri
    exact ⟨by unfold capS;dsimp only;omega,by unfold capS;dsimp only;omega⟩
set_option maxHeartbeats 4000000 in
theorem few_ok (f0:Int):ACalls Try.prog 43 [.ptr 10000 0 0] [(10000,die f0)] (fun z o=>∃x:Ben×Int,z=benV x.1∧o=[(10000,die x.2)]∧(MadeB x.1 2 1 2 2∧∀m∈x.1.mas,1≤m.nom∧m.nom≤1000)):=by
 have F:=Fx.nil
 refine ent Try.func43 Try.ntmps43 Try.results43 ?_
 refine rK [0,2] ?_
 refine W.seqR ?_
 refine oN 1 ?_
 refine oC [(10000,10000)] ?_
 refine CallT.mkE (BenchOf_own f0 2 1 2 2 (by omega) (by omega) (by omega) (by omega)) (fun z11 hz11=>⟨(by simp), ?_⟩)
 refine WOps.norm (by simp;rfl) ?_
 refine oN 9 ?_
 refine oK [2,3] ?_
 refine W.seqk fun K1 hK1=>?_
 obtain ⟨⟨b,fc,hb⟩,g⟩:=z11
 obtain ⟨qm,qfo,_⟩:=hz11
 dsimp only at qm qfo
 have qnom:∀m∈(fewB b).mas,1≤m.nom∧m.nom≤1000:=fun m hm=>by
   obtain ⟨m0,k,rfl⟩:=List.mem_map.1 hm
   obtain ⟨n,_,kf⟩:=qfo.offs.left k
   exact kf.nom
 have hm2:b.mas.length≤2:=qm.mas
 have qs1:=qm.ok.s1
 have qs2:=qm.scl
 obtain ⟨s0,qs0⟩:∃s,b.scl=[s]:=by
   cases hc:b.scl with
   | nil=>rw [hc] at qs1;simp at qs1
   | cons s l=>rw [hc] at qs2;exact ⟨s,by rw [List.length_eq_zero_iff.1 (by simpa using qs2:l.length=0)]⟩
 have hs0:=qs0
 have hcp0:capN b.mas 0=b.mas:=rfl
 have qsm:=(qm.small.2 s0 (by rw [qs0];simp))
 have qsf:=qsm.fst
 have qsd:=qsm.dri
 replace F:=F.add hm2 |>.add hs0 |>.add hcp0
 refine rK [2,3,6] ?_
 refine W.block ?_
 refine lpa (α:=Nat) [2,3] [18,37] [88] (fun i=>[(6,I i)]) (fun i=>[(88,.row true 92 3 ((capN b.mas i).map M3))]) (fun i=>i≤b.mas.length) (fun i=>b.mas.length-i) 0 v0 ?_
 ·
  intro i hI0
  simp only [List.cons_append,List.nil_append]
  try dsimp only at hI0
  replace F:=F.add hI0
  refine W.seqk fun K2 hK2=>?_
  refine rK [2,3,6,19] ?_
  refine it (fun hc1=>?_) (fun hc1=>?_)
  ·
   try simp at hc1
   replace F:=F.add hc1
   refine W.skip ?_
   refine hK2 _ ?_
   clear hK2 K2
   refine W.seqk fun K3 hK3=>?_
   refine W.block ?_
   have hil:i<b.mas.length:=by omega
   have hcl:(capN b.mas i).length=b.mas.length:=capN_len _ (by omega)
   obtain ⟨nm,lo,hi,qx⟩:∃nm lo hi,b.mas[i]=⟨nm,⟨lo,hi⟩⟩:=⟨_,_,_,rfl⟩
   have qmr:=qm.small.1 _ (List.getElem_mem hil)
   rw [qx] at qmr
   dsimp only at qmr
   have hget:(capN b.mas i)[i]?=some ⟨nm,⟨lo,hi⟩⟩:=by rw [capN_at hil,qx]
   have hget2:(capN b.mas i)[i]'(by omega)=⟨nm,⟨lo,hi⟩⟩:=(List.getElem?_eq_some_iff.1 hget).2
   have qov:=qm.ok.mas _ (List.getElem_mem hil)
   rw [qx] at qov
   dsimp only at qov
   have hwr:IntKind.i64.wrap (lo+4)=lo+4:=wrap_i64 (by omega) (by omega)
   obtain ⟨w,qw⟩:∃w,(if hi<lo+4 then hi else lo+4)=w:=⟨_,rfl⟩
   have hw1:=qw
   have hw2:(if lo+4<hi then lo+4 else hi)=w:=by rw [←qw];split<;>split<;>omega
   have hset:((capN b.mas i).map M3).set i (.agg [I nm,I lo,I w])=(capN b.mas (i+1)).map M3:=by
     rw [←capN_set hil,List.map_set,qx]
     unfold capM
     dsimp only
     rw [show min hi (lo+4)=w by rw [←qw];split<;>omega]
     rfl
   replace F:=F.add hil |>.add hcl |>.add hget |>.add hget2 |>.add hwr |>.add hw1 |>.add hw2 |>.add hset
   refine rK [2,3,6,7] ?_
   refine wDe 11 [] [[],[],[1],[1,2],[2,1,3],[],[5],[5,6],[6,5,7],[7,5,6,8],[8,6,5,7,9,3,1,2,4],[10,9,8,7,6,5,4,3,2,1,0],[0,1,2,3,4,5,6,7,8,9,10,11],[11,10,9,8,7,6,5,4,3,2,1,0,12]] ?_
   refine dB [([28,29,30,31,32,33,34,35,36,37],[],[]),([27,32,33,34,35,36],[false],[]),([27,32,33,34,35,36],[false,true],[]),([27,32,33,34,35,36],[false,true,true],[]),([27,32,33,34,35,36],[false,true,true,true],[]),([27,28,29,30,31],[false,false,false,false,false],[]),([27,28,29,30,31],[false,false,false,false,false,true],[]),([27,28,29,30,31],[false,false,false,false,false,true,true],[]),([27,28,29,30,31],[false,false,false,false,false,true,true,true],[]),([27,28,29,30,31],[false,false,false,false,false,true,true,true,true],[]),([27],[false,true,true,true,true,true,true,true,true,true],[])] 0 11 ?_
   refine dD ?_
   refine oN 3 ?_
   refine WOps.endK ?_
   refine hK3 _ ?_
   clear hK3 K3
   refine rEw ?_
   refine ⟨i+1,lf0,v0,v0⟩
  ·
   try simp at hc1
   replace F:=F.add hc1
   refine W.exit ?_
   refine hK1 _ ?_
   clear hK2 K2 hK1 K1
   have hin:i=b.mas.length:=by omega
   have hcf:capN b.mas b.mas.length=b.mas.map capM:=capN_full _
   have htk:List.take b.mas.length (b.mas.map capM)=b.mas.map capM:=List.take_of_length_le (by simp)
   replace F:=F.add hin |>.add hcf |>.add htk
   refine rK [2,3,8] ?_
   obtain ⟨⟨fl,fh⟩,⟨dl,dh⟩⟩:=s0
   dsimp only at qsf qsd
   have hwr1:IntKind.i64.wrap (fl+4)=fl+4:=wrap_i64 (by omega) (by omega)
   have hwr2:IntKind.i64.wrap (dl+2)=dl+2:=wrap_i64 (by omega) (by omega)
   obtain ⟨w1,qw1⟩:∃w,(if fh<fl+4 then fh else fl+4)=w:=⟨_,rfl⟩
   have hw1:=qw1
   have hw1b:(if fl+4<fh then fl+4 else fh)=w1:=by rw [←qw1];split<;>split<;>omega
   have qm1:min fh (fl+4)=w1:=by rw [←qw1];split<;>omega
   obtain ⟨w2,qw2⟩:∃w,(if dh<dl+2 then dh else dl+2)=w:=⟨_,rfl⟩
   have hw2:=qw2
   have hw2b:(if dl+2<dh then dl+2 else dh)=w2:=by rw [←qw2];split<;>split<;>omega
   have qm2:min dh (dl+2)=w2:=by rw [←qw2];split<;>omega
   replace F:=F.add hwr1 |>.add hwr2 |>.add hw1 |>.add hw1b |>.add hw2 |>.add hw2b
   refine wD 30 [(29,[89])] [[],[],[],[2],[2,3],[3,2,4],[4,2,3,5],[],[7],[7,8],[8,7,9],[9,7,8,10],[10,8,7,9,11],[11,9,7,8,10,12,5,3,2,4,6],[],[14],[14,15],[15,14,16],[16,14,15,17],[],[19],[19,20],[20,19,21],[21,19,20,22],[22,20,19,21,23],[23,21,19,20,22,24,17,15,14,16,18],[22,20,19,21,23,17,15,14,16,18,13,12,11,10,9,8,7,6,5,4,3,2,0],[0,2,3,4,5,6,7,8,9,10,11,12,13,18,16,14,15,17,23,21,19,20,22,26],[26,22,20,19,21,23,17,15,14,16,18,13,12,11,10,9,8,7,6,5,4,3,2,0,27],[27,0,2,3,4,5,6,7,8,9,10,11,12,13,18,16,14,15,17,23,21,19,20,22,26,28],[29,28,27,26,25,24,23,22,21,20,19,18,17,16,15,14,13,12,11,10,9,8,7,6,5,4,3,2,0,1],[1,0,2,3,4,5,6,7,8,9,10,11,12,13,14,15,16,17,18,19,20,21,22,23,24,25,26,27,28,29,30],[30,29,28,27,26,25,24,23,22,21,20,19,18,17,16,15,14,13,12,11,10,9,8,7,6,5,4,3,2,0,1,31],[31,1,0,2,3,4,5,6,7,8,9,10,11,12,13,14,15,16,17,18,19,20,21,22,23,24,25,26,27,28,29,30,32]] ?_
   refine dB [([44,45,46,47,48,49,50,51,52,53,54,55,56,57,58,59,60,61,62,63,64,65,66,67,68],[],[]),([43,45,46,47,48,49,50,51,52,53,54,55,56,57,58,59,60,61,62,63,64,65,66,67,68,69,70,71],[false],[89]),([43,44,50,51,52,53,54,55,57,58,59,60,61,62,63,64,65,66,67,68],[false,false],[]),([43,44,50,51,52,53,54,55,57,58,59,60,61,62,63,64,65,66,67,68],[false,false,true],[]),([43,44,50,51,52,53,54,55,57,58,59,60,61,62,63,64,65,66,67,68],[false,false,true,true],[]),([43,44,50,51,52,53,54,55,57,58,59,60,61,62,63,64,65,66,67,68],[false,false,true,true,true],[]),([43,44,50,51,52,53,54,55,57,58,59,60,61,62,63,64,65,66,67,68],[false,false,true,true,true,true],[]),([43,44,45,46,47,48,49,57,58,59,60,61,62,63,64,65,66,67,68],[false,false,false,false,false,false,false],[]),([43,44,45,46,47,48,49,57,58,59,60,61,62,63,64,65,66,67,68],[false,false,false,false,false,false,false,true],[]),([43,44,45,46,47,48,49,57,58,59,60,61,62,63,64,65,66,67,68],[false,false,false,false,false,false,false,true,true],[]),([43,44,45,46,47,48,49,57,58,59,60,61,62,63,64,65,66,67,68],[false,false,false,false,false,false,false,true,true,true],[]),([43,44,45,46,47,48,49,57,58,59,60,61,62,63,64,65,66,67,68],[false,false,false,false,false,false,false,true,true,true,true],[]),([43,44,45,46,47,48,49,57,58,59,60,61,62,63,64,65,66,67,68],[false,false,false,false,false,false,false,true,true,true,true,true],[]),([43,44,57,58,59,60,61,62,63,64,65,66,67,68],[false,false,true,true,true,true,true,true,true,true,true,true,true],[]),([43,44,45,46,47,48,49,50,51,52,53,54,55,56,62,63,64,65,66,67],[false,false,false,false,false,false,false,false,false,false,false,false,false,false],[]),([43,44,45,46,47,48,49,50,51,52,53,54,55,56,62,63,64,65,66,67],[false,false,false,false,false,false,false,false,false,false,false,false,false,false,true],[]),([43,44,45,46,47,48,49,50,51,52,53,54,55,56,62,63,64,65,66,67],[false,false,false,false,false,false,false,false,false,false,false,false,false,false,true,true],[]),([43,44,45,46,47,48,49,50,51,52,53,54,55,56,62,63,64,65,66,67],[false,false,false,false,false,false,false,false,false,false,false,false,false,false,true,true,true],[]),([43,44,45,46,47,48,49,50,51,52,53,54,55,56,62,63,64,65,66,67],[false,false,false,false,false,false,false,false,false,false,false,false,false,false,true,true,true,true],[]),([43,44,45,46,47,48,49,50,51,52,53,54,55,56,57,58,59,60,61],[false,false,false,false,false,false,false,false,false,false,false,false,false,false,false,false,false,false,false],[]),([43,44,45,46,47,48,49,50,51,52,53,54,55,56,57,58,59,60,61],[false,false,false,false,false,false,false,false,false,false,false,false,false,false,false,false,false,false,false,true],[]),([43,44,45,46,47,48,49,50,51,52,53,54,55,56,57,58,59,60,61],[false,false,false,false,false,false,false,false,false,false,false,false,false,false,false,false,false,false,false,true,true],[]),([43,44,45,46,47,48,49,50,51,52,53,54,55,56,57,58,59,60,61],[false,false,false,false,false,false,false,false,false,false,false,false,false,false,false,false,false,false,false,true,true,true],[]),([43,44,45,46,47,48,49,50,51,52,53,54,55,56,57,58,59,60,61],[false,false,false,false,false,false,false,false,false,false,false,false,false,false,false,false,false,false,false,true,true,true,true],[]),([43,44,45,46,47,48,49,50,51,52,53,54,55,56,57,58,59,60,61,69,70,71],[false,false,false,false,false,false,false,false,false,false,false,false,false,false,false,false,false,false,false,true,true,true,true,true],[89]),([43,44,45,46,47,48,49,50,51,52,53,54,55,56,69,70,71],[false,false,false,false,false,false,false,false,false,false,false,false,false,false,true,true,true,true,true,true,true,true,true,true,true],[89]),([44,67,68],[true,false,true,true,true,true,true,true,true,true,true,true,true,true,true,true,true,true,true,true,true,true,true,true,false,false],[]),([44,67,68],[true,false,true,true,true,true,true,true,true,true,true,true,true,true,true,true,true,true,true,true,true,true,true,true,false,false,true],[]),([44,67,68],[true,false,true,true,true,true,true,true,true,true,true,true,true,true,true,true,true,true,true,true,true,true,true,true,false,false,true,true],[])] 1 29 ?_
   refine WDraw.upd hΓ [89] (viewB_eq (L:=[44,67,68]) (S:=[true,false,true,true,true,true,true,true,true,true,true,true,true,true,true,true,true,true,true,true,true,true,true,true,false,false,true,true,true]) (O:=[]) (by kernel_rfl) (by kernel_rfl) (by simp [hm2,hs0,hcp0,hI0,hc1,hin,hcf,htk,hwr1,hwr2,hw1,hw1b,hw2,hw2b];rfl)) (by first | rfl | simp) (by simp [hm2,hs0,hcp0,hI0,hc1,hin,hcf,htk,hwr1,hwr2,hw1,hw1b,hw2,hw2b];first | rfl | exact ⟨rfl,rfl⟩) (by simp [hm2,hs0,hcp0,hI0,hc1,hin,hcf,htk,hwr1,hwr2,hw1,hw1b,hw2,hw2b];first | done | rfl) (.inr (by simp)) (by simp [hm2,hs0,hcp0,hI0,hc1,hin,hcf,htk,hwr1,hwr2,hw1,hw1b,hw2,hw2b];rfl) ?_
   refine dD ?_
   refine WOps.le Le.dedup rfl rfl ?_
   refine WOps.norm (by simp [hm2,hs0,hcp0,hI0,hc1,hin,hcf,htk,hwr1,hwr2,hw1,hw1b,hw2,hw2b];rfl) ?_
   refine oN 4 ?_
   refine oK [2,3] ?_
   refine rK [2] ?_
   refine W.ret ?_
   refine er false [88,89] [(10000,10000)] ?_
   refine ⟨(fewB b,_), ?_,rfl,few_made qm,qnom⟩
   show _=AV.agg [masV (b.mas.map capM),weiV b.wei,sclV (b.scl.map capS),triV b.tri,I b.days]
   rw [qs0]
   show _=AV.agg [masV (b.mas.map capM),weiV b.wei,.imm [.agg [I fl,I (min fh (fl+4)),I dl,I (min dh (dl+2))]],triV b.tri,I b.days]
   rw [qm1,qm2,←List.map_map]
end Go.Sim
