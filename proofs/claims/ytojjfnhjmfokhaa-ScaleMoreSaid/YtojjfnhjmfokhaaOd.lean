/- One result more: the law answers true. -/
import Derived.Test.YtojjfnhjmfokhaaQp
import Derived.Test.YtojjfnhjmfokhaaOc
namespace Go.Sim
open Go.Proofs
set_option maxRecDepth 100000
set_option linter.unusedSimpArgs false
set_option linter.unusedVariables false
attribute [-simp] List.map_set List.map_take List.map_drop
attribute [simp] spn_eta
def restL (n:Int) (k:Nat):List Int:=((List.range k).filter fun i:Nat=>decide (¬ (i:Int)=n)).map fun i:Nat=>(i:Int)
theorem restL_succ (n:Int) (k:Nat):restL n (k + 1)=if (k:Int)=n then restL n k else restL n k ++ [(k:Int)]:=by
  unfold restL
  rw [List.range_succ,List.filter_append,List.map_append]
  by_cases h:(k:Int)=n
  · rw [if_pos h]; simp [h]
  · rw [if_neg h]; simp [h]
theorem restL_mem {n:Int} {k:Nat} {x:Int} (h:x∈restL n k):0≤x∧x < k:=by
  obtain ⟨i,hi,rfl⟩:=List.mem_map.1 h
  have:=List.mem_range.1 (List.mem_filter.1 hi).1
  omega
theorem restL_len (n:Int) (k:Nat):(restL n k).length≤k:=by
  unfold restL
  rw [List.length_map]
  exact Nat.le_trans (List.length_filter_le _ _) (by simp)
set_option maxHeartbeats 4000000 in
theorem ScaleMore_ok (nums:List Int):ACalls Try.prog 11 [ints nums] [] (fun r o=>r=B true∧o=[]):=by
 have F:=Fx.nil
 refine ent Try.func11 Try.ntmps11 Try.results11 ?_
 refine rK [0] ?_
 refine W.seqR ?_
 refine oN 1 ?_
 refine oC [] ?_
 refine CallT.mk (DieOf_ok nums) (by simp) ?_
 obtain ⟨f,qf⟩:∃ f,nums.foldl dieStep 2611923443488327891=f:=⟨_,rfl⟩
 have hf:=qf
 replace F:=F.add hf
 refine WOps.norm (by simp [hf]; rfl) ?_
 refine oN 1 ?_
 refine oK [3] ?_
 refine W.seqR ?_
 refine oN 1 ?_
 refine oC [(10000,240)] ?_
 refine CallT.mkE (BenchOf_ok f 4 2 3 5 (by omega) (by omega) (by omega) (by omega)) (fun z33 hz33=>⟨(by simp [hf]), ?_⟩)
 refine WOps.norm (by simp [hf]; rfl) ?_
 refine oN 9 ?_
 refine oK [3,4] ?_
 obtain ⟨⟨b,fc,hb⟩,g⟩:=z33
 obtain ⟨qmm,_,_⟩:=hz33
 have hM:MadeB b 4 2 3 5:=qmm
 have hm1:b.mas.length≤4:=hM.mas
 have hm2:b.wei.length≤3:=hM.wei
 have hm3:b.scl.length≤2:=hM.scl
 have hm4:b.tri.length≤3:=hM.tri
 have hs1:1≤b.scl.length:=hM.ok.s1
 have qv:=hM.ok
 obtain ⟨n,qn⟩:∃ n,b.wei.length + b.tri.length=n:=⟨_,rfl⟩
 have hn:(b.wei.length:Int) + (b.tri.length:Int)=(n:Int):=by omega
 have hn6:n≤6:=by omega
 replace F:=F.add hM |>.add hm1 |>.add hm2 |>.add hm3 |>.add hm4 |>.add hs1 |>.add hn |>.add hn6
 refine rKw [3,4,7] ?_
 obtain ⟨go,qgo⟩:∃ x,castV g (n:Int)=x:=⟨_,rfl⟩
 have hgo:=qgo
 obtain ⟨g1,qg1⟩:∃ x,castF g (n:Int)=x:=⟨_,rfl⟩
 have hg1:=qg1
 replace F:=F.add hgo |>.add hg1
 refine W.seqR ?_
 refine oN 2 ?_
 refine oC [(10000,240)] ?_
 refine ct (Cast_ok g (n:Int) (by omega)) ?_
 refine oN 1 ?_
 refine oK [3,4,7,8] ?_
 refine rK [3,4,7,8,9] ?_
 refine W.seqk fun K1 hK1=>?_
 refine rK [3,4,7,8,9,10] ?_
 refine W.block ?_
 obtain ⟨U,qU⟩:∃ U:Nat→List Int,U=restL go:=⟨_,rfl⟩
 have hU0:U 0=[]:=by rw [qU]; rfl
 replace F:=F.add hU0
 refine sn 9 9000 3 1 ?_
 refine lpa (α:=Nat) [3,4,7,8] [57,58] [9000] (fun i=>[(10,I i),(9,.own 9000 0 (U i).length)]) (fun i=>[(9000,.row true 3 1 ((U i).map I))]) (fun i=>i≤n) (fun i=>n - i) 0 v0 ?_
 ·
  intro i hI0
  simp only [List.cons_append,List.nil_append]
  try dsimp only at hI0
  replace F:=F.add hI0
  refine W.seqk fun K2 hK2=>?_
  refine rK [3,4,7,8,9,10,49] ?_
  refine it (fun hc1=>?_) (fun hc1=>?_)
  ·
   try simp at hc1
   replace F:=F.add hc1
   refine W.skip ?_
   refine hK2 _ ?_
   clear hK2 K2
   refine W.seqk fun K3 hK3=>?_
   refine W.block ?_
   have hin:i < n:=by omega
   have hUi:(U i).length≤i:=by rw [qU]; exact restL_len go i
   have qUs:U (i + 1)=if (i:Int)=go then U i else U i ++ [(i:Int)]:=by rw [qU]; exact restL_succ go i
   replace F:=F.add hin |>.add hUi
   by_cases hne:(i:Int)=go
   ·
    replace F:=F.add hne
    have hUs:U (i + 1)=U i:=by rw [qUs,if_pos hne]
    replace F:=F.add hUs
    refine rK [3,4,7,8,9,10,54] ?_
    refine cF ?_
    refine W.skip ?_
    refine hK3 _ ?_
    clear hK3 K3
    refine rEw ?_
    refine ⟨i + 1,lf0,v0,v0⟩
   ·
    replace F:=F.add hne
    have hUs:U (i + 1)=U i ++ [(i:Int)]:=by rw [qUs,if_neg hne]
    replace F:=F.add hUs
    refine rK [3,4,7,8,9,10,54] ?_
    refine cT ?_
    refine rEw ?_
    refine hK3 _ ?_
    clear hK3 K3
    refine rEw ?_
    refine ⟨i + 1,lf0,v0,v0⟩
  ·
   try simp at hc1
   replace F:=F.add hc1
   refine W.exit ?_
   refine hK1 _ ?_
   clear hK2 K2 hK1 K1
   have hin:i=n:=by omega
   obtain ⟨l,ql⟩:∃ l,U n=l:=⟨_,rfl⟩
   have hUn:=ql
   have qlm:∀ x∈l,0≤x∧x < b.wei.length + b.tri.length:=fun x hx=>by
     rw [← ql,qU] at hx
     have:=restL_mem hx
     omega
   have hll:l.length≤6:=by rw [← ql,qU]; have:=restL_len go n; omega
   have htkl:List.take l.length l=l:=List.take_length
   obtain ⟨o,qo⟩:∃ o,onlyB b l=o:=⟨_,rfl⟩
   have qon:=only_ok b l qlm (by omega) (by omega) (by omega)
   rw [qo] at qon
   have qw6:=selWei_len b l
   have qt6:=selTri_len b l
   have qv2:ValidB o:=by rw [← qo]; exact only_valid qv qlm (by omega) (by omega)
   have qos:o.scl=b.scl:=by rw [← qo]; rfl
   have qod:o.days=b.days:=by rw [← qo]; rfl
   have qlb:=made_len hM (by omega) (by omega) (by omega)
   have qlo:LenB o:=⟨by rw [← qo]; exact qlb.mas,by rw [← qo]; show (selWei b l).length≤1000; omega,by rw [← qo]; exact qlb.scl,by rw [← qo]; show (selTri b l).length≤1000; omega⟩
   replace F:=F.add hin |>.add hUn |>.add hll |>.add htkl
   refine W.weaken (Le.freeze (id:=9000) (by simp [hf,hM,hm1,hm2,hm3,hm4,hs1,hn,hn6,hgo,hg1,hU0,hI0,hc1,hin,hUn,hll,htkl]; rfl)) ?_
   refine W.seqR ?_
   refine oN 2 ?_
   refine oC [] ?_
   refine ct (qon) ?_
   refine oN 2 ?_
   refine oK [3,4,11] ?_
   have qc1:=castV_lo g1 (b.scl.length:Int)
   have qc2:=castV_le g1 (b.scl.length:Int) (by omega)
   obtain ⟨sn,qsn⟩:∃ c:Nat,castV g1 (b.scl.length:Int)=(c:Int):=⟨(castV g1 (b.scl.length:Int)).toNat,by omega⟩
   have hsn:=qsn
   obtain ⟨g2,qg2⟩:∃ x,castF g1 (b.scl.length:Int)=x:=⟨_,rfl⟩
   have hg2:=qg2
   have qdy:=qv.days
   have hdy0:0≤b.days:=qdy.1
   have hdy8:b.days≤8:=qdy.2
   have qc3:=castV_lo g2 (b.days + 1)
   have qc4:=castV_le g2 (b.days + 1) (by omega)
   obtain ⟨dn,qdn⟩:∃ c:Nat,castV g2 (b.days + 1)=(c:Int):=⟨(castV g2 (b.days + 1)).toNat,by omega⟩
   have hdn:=qdn
   obtain ⟨g3,qg3⟩:∃ x,castF g2 (b.days + 1)=x:=⟨_,rfl⟩
   have hg3:=qg3
   have qc5:=castV_lo g3 12
   have qc6:=castV_le g3 12 (by omega)
   obtain ⟨lm,qlm2⟩:∃ c:Nat,castV g3 12=(c:Int):=⟨(castV g3 12).toNat,by omega⟩
   have hlm:=qlm2
   have hsnl:sn < b.scl.length:=by omega
   have qdd:dn < dd b:=by unfold dd; omega
   have hdd9:dd b≤9:=dd_le qv
   replace F:=F.add hsn |>.add hg2 |>.add hdy0 |>.add hdy8 |>.add hdn |>.add hg3 |>.add hlm |>.add hsnl |>.add hdd9
   refine wD 11 [(4,[240]),(9,[240])] [[],[],[1],[1,2],[2,1,3,0],[],[],[6],[6,7],[0,3,1,2,4,7,6,8,5],[],[5,8,6,7,4,2,1,3,0,9,10],[10,9,7,6,8,5,11,0,3,1,2,4],[11,10,12,5,8,6,7,4,2,1,3,0,9],[12,13,10,9,0,3,1,2,4,7,6,8,5,11]] ?_
   refine dB [([63,64,65,67,68,69,70,72],[],[]),([62,67,68,69,70,72],[false],[]),([62,67,68,69,70,72],[false,true],[]),([62,67,68,69,70,72],[false,true,true],[])] 7 4 ?_
   refine dC [67,68,69,70,72] [true,true,true,true] [] [(10000,240)] ?_
   refine cd (Cast_ok g1 (b.scl.length:Int) (by omega)) ?_
   refine dBw [([62,63,64,65,66,68,69,70,72],[false,false,false,false,false],[240]),([62,63,64,65,66,67,72],[false,false,false,false,false,false],[240]),([62,63,64,65,66,67,72],[false,false,false,false,false,false,true],[240]),([62,63,64,65,66,67,72],[false,false,false,false,false,false,true,true],[240])] 2 9 ?_
   refine dC [72] [true,true,true,true,true,true,true,true,true] [] [(10000,240)] ?_
   refine cd (Cast_ok g2 (b.days + 1) (by omega)) ?_
   refine dB [([62,63,64,65,66,67,68,69,70,71],[false,false,false,false,false,false,false,false,false,false],[240,240])] 0 11 ?_
   refine dD ?_
   refine oC [(10000,240)] ?_
   refine ct (Cast_ok g3 12 (by omega)) ?_
   refine oN 3 ?_
   refine oK [4,11,12,13,14] ?_
   have qlim:0≤(lm:Int)∧(lm:Int)≤10000:=by omega
   have qsno:sn < o.scl.length:=by rw [qos]; exact hsnl
   have qddo:dn < dd o:=by unfold dd; rw [qod]; exact qdd
   obtain ⟨E,qE⟩:∃ E,knE b=E:=⟨_,rfl⟩
   obtain ⟨G,qG⟩:∃ G,knE o=G:=⟨_,rfl⟩
   have hE1:offsE b=E:=(offE_kn qv).trans qE
   have hE2:errsE b sn=E:=(errE_kn qv hsnl).trans qE
   have hE3:keeE b sn dn lm=E:=(keeE_kn qv hsnl qdd qlim).trans qE
   have hG1:offsE o=G:=(offE_kn qv2).trans qG
   have hG2:errsE o sn=G:=(errE_kn qv2 qsno).trans qG
   have hG3:keeE o sn dn lm=G:=(keeE_kn qv2 qsno qddo qlim).trans qG
   have qE09:E=0∨E=9:=by rw [← qE]; exact knE_cases b
   have qG09:G=0∨G=9:=by rw [← qG]; exact knE_cases o
   obtain ⟨P,qP⟩:∃ P,offsL b=P:=⟨_,rfl⟩
   obtain ⟨Q,qQ⟩:∃ Q,offsL o=Q:=⟨_,rfl⟩
   obtain ⟨X,qX⟩:∃ X,errsL b sn=X:=⟨_,rfl⟩
   obtain ⟨Y,qY⟩:∃ Y,errsL o sn=Y:=⟨_,rfl⟩
   obtain ⟨v,qvv⟩:∃ v,keeV b sn dn lm=v:=⟨_,rfl⟩
   obtain ⟨w,qww⟩:∃ w,keeV o sn dn lm=w:=⟨_,rfl⟩
   have hP:=qP
   have hQ:=qQ
   have hX:=qX
   have hY:=qY
   have hvv:=qvv
   have hww:=qww
   have qmore:=fun h0=>more_all qv qlm (by rw [qo]; exact qv2) (qE.trans h0)
   rw [qo] at qmore
   replace F:=F.add hE1 |>.add hE2 |>.add hE3 |>.add hG1 |>.add hG2 |>.add hG3 |>.add hP |>.add hQ |>.add hX |>.add hY |>.add hvv |>.add hww
   refine W.seqR ?_
   refine oN 1 ?_
   refine oC [] ?_
   refine ct (Offs_ok b qlb) ?_
   refine oN 5 ?_
   refine oK [4,11,12,13,14,15,16] ?_
   refine W.seqR ?_
   refine oN 1 ?_
   refine oC [] ?_
   refine ct (Offs_ok o qlo) ?_
   refine oN 5 ?_
   refine oK [4,11,12,13,14,15,16,17,18] ?_
   refine W.seqR ?_
   refine oN 2 ?_
   refine oC [] ?_
   refine ct (Errors_ok b qlb sn) ?_
   refine oN 5 ?_
   refine oK [4,11,12,13,14,15,16,17,18,19,20] ?_
   refine W.seqR ?_
   refine oN 2 ?_
   refine oC [] ?_
   refine ct (Errors_ok o qlo sn) ?_
   refine oN 5 ?_
   refine oK [4,11,12,13,14,15,16,17,18,19,20,21,22] ?_
   refine W.seqR ?_
   refine oN 4 ?_
   refine oC [] ?_
   refine ct (Keeps_ok b qlb sn dn lm) ?_
   refine oN 5 ?_
   refine oK [11,12,13,14,15,16,17,18,19,20,21,22,23,24] ?_
   refine W.seqR ?_
   refine oN 4 ?_
   refine oC [] ?_
   refine ct (Keeps_ok o qlo sn dn lm) ?_
   refine oN 5 ?_
   refine oK [15,16,17,18,19,20,21,22,23,24,25,26] ?_
   refine W.seqk fun K4 hK4=>?_
   by_cases hE9:E=9
   ·
    replace F:=F.add hE9
    refine rK [15,16,17,18,19,20,21,22,23,24,25,26,113] ?_
    refine cT ?_
    by_cases hG0:G=0
    ·
     replace F:=F.add hG0
     refine W.seqR ?_
     refine oN 4 ?_
     refine gT ?_
     refine gT ?_
     refine gT ?_
     refine oN 2 ?_
     refine gT ?_
     refine gT ?_
     refine gT ?_
     refine gF ?_
     refine gF ?_
     refine gF ?_
     refine gT ?_
     refine oN 2 ?_
     refine gT ?_
     refine gT ?_
     refine gT ?_
     refine oN 2 ?_
     refine gT ?_
     refine gT ?_
     refine gT ?_
     refine oN 2 ?_
     refine gC [] ?_
     refine ct (awake_ok) ?_
     refine oN 2 ?_
     refine oK [2] ?_
     refine W.ret ?_
     refine tr ?_
     clear hK4 K4
     exact er0 false [] []
    ·
     replace F:=F.add hG0
     have hG9:G=9:=by omega
     replace F:=F.add hG9
     refine W.seqR ?_
     refine oN 4 ?_
     refine gT ?_
     refine gT ?_
     refine gT ?_
     refine oN 2 ?_
     refine gT ?_
     refine gT ?_
     refine gT ?_
     refine gT ?_
     refine gT ?_
     refine gT ?_
     refine gT ?_
     refine oN 2 ?_
     refine gT ?_
     refine gT ?_
     refine gT ?_
     refine oN 2 ?_
     refine gT ?_
     refine gT ?_
     refine gT ?_
     refine oN 2 ?_
     refine gC [] ?_
     refine ct (awake_ok) ?_
     refine oN 2 ?_
     refine oK [2] ?_
     refine W.ret ?_
     refine tr ?_
     clear hK4 K4
     exact er0 false [] []
   ·
    replace F:=F.add hE9
    have hE0:E=0:=by omega
    obtain ⟨qm1,⟨qm2,qm3,qm4⟩,qm5⟩:=qmore hE0
    obtain ⟨⟨qm6,qm7,qm8⟩,qm9⟩:=qm5 sn hsnl
    have hGz:G=0:=qG.symm.trans qm1
    have hPl:P.length=b.mas.length:=by rw [← qP]; exact qm2
    have hQl:Q.length=b.mas.length:=by rw [← qQ]; exact qm3
    have hXl:X.length=dd b:=by rw [← qX]; exact qm6
    have hYl:Y.length=dd b:=by rw [← qY]; exact qm7
    have qwi:∀ k,(h1:k < P.length)→(h2:k < Q.length)→within P[k] Q[k]:=by subst qP; subst qQ; exact qm4
    have qxi:∀ k,(h1:k < X.length)→(h2:k < Y.length)→within X[k] Y[k]:=by subst qX; subst qY; exact qm8
    have qvw:w≠3→v=w:=by rw [← qvv,← qww]; exact qm9 dn qdd lm qlim
    replace F:=F.add hE0 |>.add hGz |>.add hPl |>.add hQl |>.add hXl |>.add hYl
    refine rK [15,16,17,18,19,20,21,22,23,24,25,26,113] ?_
    refine cF ?_
    refine W.skip ?_
    refine hK4 _ ?_
    clear hK4 K4
    refine W.seqk fun K5 hK5=>?_
    by_cases hv3:w=3
    ·
     replace F:=F.add hv3
     refine W.seqR ?_
     refine oN 3 ?_
     refine gT ?_
     refine gT ?_
     refine oN 2 ?_
     refine gT ?_
     refine gT ?_
     refine oN 2 ?_
     refine gT ?_
     refine gT ?_
     refine oN 2 ?_
     refine gT ?_
     refine gT ?_
     refine oN 2 ?_
     refine gT ?_
     refine gT ?_
     refine oN 2 ?_
     refine gT ?_
     refine gT ?_
     refine gT ?_
     refine gT ?_
     refine gT ?_
     refine oN 2 ?_
     refine gT ?_
     refine gT ?_
     refine gT ?_
     refine gT ?_
     refine gT ?_
     refine oN 2 ?_
     refine gT ?_
     refine gT ?_
     refine gT ?_
     refine gF ?_
     refine gF ?_
     refine gF ?_
     refine gT ?_
     refine oN 1 ?_
     refine oK [15,17,19,21,188] ?_
     refine cF ?_
     refine W.skip ?_
     refine hK5 _ ?_
     clear hK5 K5
     refine W.seqk fun K6 hK6=>?_
     refine rK [15,17,19,21,27] ?_
     refine W.block ?_
     refine lpa (α:=Nat) [15,17,19,21] [191,203] [] (fun k=>[(27,I k)]) (fun k=>[]) (fun k=>k≤b.mas.length) (fun k=>b.mas.length - k) 0 v0 ?_
     ·
      intro k hI1
      simp only [List.cons_append,List.nil_append]
      try dsimp only at hI1
      replace F:=F.add hI1
      refine W.seqk fun K7 hK7=>?_
      refine rK [15,17,19,21,27,192] ?_
      refine it (fun hc7=>?_) (fun hc7=>?_)
      ·
       try simp at hc7
       replace F:=F.add hc7
       refine W.skip ?_
       refine hK7 _ ?_
       clear hK7 K7
       refine W.seqk fun K8 hK8=>?_
       refine W.block ?_
       have hkm:k < b.mas.length:=by omega
       have hkP:k < P.length:=by omega
       have hkQ:k < Q.length:=by omega
       obtain ⟨h1w,h2w⟩:=qwi k hkP hkQ
       have hw1:Q[k].lo≤P[k].lo:=h1w
       have hw2:P[k].hi≤Q[k].hi:=h2w
       replace F:=F.add hkm |>.add hkP |>.add hkQ |>.add hw1 |>.add hw2
       refine wD 8 [] [[],[],[1,0],[0,1,2],[],[],[5,4],[4,5,6],[6,5,4,7,2,1,0,3],[3,0,1,2,7,4,5,6,8]] ?_
       refine dB [([196,199,200,201,202],[],[]),([195,199,200,201,202],[false],[]),([199,200,201,202],[true,true],[]),([199,200,201,202],[true,true,true],[]),([195,196,197,198,200],[false,false,false,false],[]),([195,196,197,198,199],[false,false,false,false,false],[]),([195,196,197,198],[false,false,false,false,true,true],[]),([195,196,197,198],[false,false,false,false,true,true,true],[])] 0 8 ?_
       refine dD ?_
       refine oC [] ?_
       refine ct (Within_ok P[k] Q[k]) ?_
       refine oN 1 ?_
       refine oK [15,17,19,21,27,204] ?_
       refine cF ?_
       refine W.skip ?_
       refine hK8 _ ?_
       clear hK8 K8
       refine rEw ?_
       refine ⟨k + 1,lf0,v0,v0⟩
      ·
       try simp at hc7
       replace F:=F.add hc7
       refine W.exit ?_
       refine hK6 _ ?_
       clear hK7 K7 hK6 K6
       refine W.seqk fun K9 hK9=>?_
       refine rK [19,21,28] ?_
       refine W.block ?_
       refine lpa (α:=Nat) [19,21] [207,219] [] (fun k=>[(28,I k)]) (fun k=>[]) (fun k=>k≤dd b) (fun k=>dd b - k) 0 v0 ?_
       ·
        intro k hI2
        simp only [List.cons_append,List.nil_append]
        try dsimp only at hI2
        replace F:=F.add hI2
        refine W.seqk fun K10 hK10=>?_
        refine rK [19,21,28,208] ?_
        refine it (fun hc9=>?_) (fun hc9=>?_)
        ·
         try simp at hc9
         replace F:=F.add hc9
         refine W.skip ?_
         refine hK10 _ ?_
         clear hK10 K10
         refine W.seqk fun K11 hK11=>?_
         refine W.block ?_
         have hkm:k < dd b:=by omega
         have hkP:k < X.length:=by omega
         have hkQ:k < Y.length:=by omega
         obtain ⟨h1w,h2w⟩:=qxi k hkP hkQ
         have hw1:Y[k].lo≤X[k].lo:=h1w
         have hw2:X[k].hi≤Y[k].hi:=h2w
         replace F:=F.add hkm |>.add hkP |>.add hkQ |>.add hw1 |>.add hw2
         refine wD 8 [] [[],[],[1,0],[0,1,2],[],[],[5,4],[4,5,6],[6,5,4,7,2,1,0,3],[3,0,1,2,7,4,5,6,8]] ?_
         refine dB [([212,215,216,217,218],[],[]),([211,215,216,217,218],[false],[]),([215,216,217,218],[true,true],[]),([215,216,217,218],[true,true,true],[]),([211,212,213,214,216],[false,false,false,false],[]),([211,212,213,214,215],[false,false,false,false,false],[]),([211,212,213,214],[false,false,false,false,true,true],[]),([211,212,213,214],[false,false,false,false,true,true,true],[])] 0 8 ?_
         refine dD ?_
         refine oC [] ?_
         refine ct (Within_ok X[k] Y[k]) ?_
         refine oN 1 ?_
         refine oK [19,21,28,220] ?_
         refine cF ?_
         refine W.skip ?_
         refine hK11 _ ?_
         clear hK11 K11
         refine rEw ?_
         refine ⟨k + 1,lf0,v0,v0⟩
        ·
         try simp at hc9
         replace F:=F.add hc9
         refine W.exit ?_
         refine hK9 _ ?_
         clear hK10 K10 hK9 K9
         refine W.seqR ?_
         refine oC [] ?_
         refine ct (awake_ok) ?_
         refine oN 1 ?_
         refine oK [2] ?_
         refine W.ret ?_
         exact er0 false [] []
    ·
     replace F:=F.add hv3
     have hvw:v=w:=qvw hv3
     replace F:=F.add hvw
     refine W.seqR ?_
     refine oN 3 ?_
     refine gT ?_
     refine gT ?_
     refine oN 2 ?_
     refine gT ?_
     refine gT ?_
     refine oN 2 ?_
     refine gT ?_
     refine gT ?_
     refine oN 2 ?_
     refine gT ?_
     refine gT ?_
     refine oN 2 ?_
     refine gT ?_
     refine gT ?_
     refine oN 2 ?_
     refine gT ?_
     refine gT ?_
     refine gT ?_
     refine gT ?_
     refine gT ?_
     refine oN 2 ?_
     refine gT ?_
     refine gT ?_
     refine gT ?_
     refine gT ?_
     refine gT ?_
     refine oN 2 ?_
     refine gT ?_
     refine gT ?_
     refine gT ?_
     refine gX ?_
     refine gX ?_
     refine gX ?_
     refine gT ?_
     refine oN 1 ?_
     refine oK [15,17,19,21,188] ?_
     refine cF ?_
     refine W.skip ?_
     refine hK5 _ ?_
     clear hK5 K5
     refine W.seqk fun K12 hK12=>?_
     refine rK [15,17,19,21,27] ?_
     refine W.block ?_
     refine lpa (α:=Nat) [15,17,19,21] [191,203] [] (fun k=>[(27,I k)]) (fun k=>[]) (fun k=>k≤b.mas.length) (fun k=>b.mas.length - k) 0 v0 ?_
     ·
      intro k hI1
      simp only [List.cons_append,List.nil_append]
      try dsimp only at hI1
      replace F:=F.add hI1
      refine W.seqk fun K13 hK13=>?_
      refine rK [15,17,19,21,27,192] ?_
      refine it (fun hc12=>?_) (fun hc12=>?_)
      ·
       try simp at hc12
       replace F:=F.add hc12
       refine W.skip ?_
       refine hK13 _ ?_
       clear hK13 K13
       refine W.seqk fun K14 hK14=>?_
       refine W.block ?_
       have hkm:k < b.mas.length:=by omega
       have hkP:k < P.length:=by omega
       have hkQ:k < Q.length:=by omega
       obtain ⟨h1w,h2w⟩:=qwi k hkP hkQ
       have hw1:Q[k].lo≤P[k].lo:=h1w
       have hw2:P[k].hi≤Q[k].hi:=h2w
       replace F:=F.add hkm |>.add hkP |>.add hkQ |>.add hw1 |>.add hw2
       refine wD 8 [] [[],[],[1,0],[0,1,2],[],[],[5,4],[4,5,6],[6,5,4,7,2,1,0,3],[3,0,1,2,7,4,5,6,8]] ?_
       refine dB [([196,199,200,201,202],[],[]),([195,199,200,201,202],[false],[]),([199,200,201,202],[true,true],[]),([199,200,201,202],[true,true,true],[]),([195,196,197,198,200],[false,false,false,false],[]),([195,196,197,198,199],[false,false,false,false,false],[]),([195,196,197,198],[false,false,false,false,true,true],[]),([195,196,197,198],[false,false,false,false,true,true,true],[])] 0 8 ?_
       refine dD ?_
       refine oC [] ?_
       refine ct (Within_ok P[k] Q[k]) ?_
       refine oN 1 ?_
       refine oK [15,17,19,21,27,204] ?_
       refine cF ?_
       refine W.skip ?_
       refine hK14 _ ?_
       clear hK14 K14
       refine rEw ?_
       refine ⟨k + 1,lf0,v0,v0⟩
      ·
       try simp at hc12
       replace F:=F.add hc12
       refine W.exit ?_
       refine hK12 _ ?_
       clear hK13 K13 hK12 K12
       refine W.seqk fun K15 hK15=>?_
       refine rK [19,21,28] ?_
       refine W.block ?_
       refine lpa (α:=Nat) [19,21] [207,219] [] (fun k=>[(28,I k)]) (fun k=>[]) (fun k=>k≤dd b) (fun k=>dd b - k) 0 v0 ?_
       ·
        intro k hI2
        simp only [List.cons_append,List.nil_append]
        try dsimp only at hI2
        replace F:=F.add hI2
        refine W.seqk fun K16 hK16=>?_
        refine rK [19,21,28,208] ?_
        refine it (fun hc14=>?_) (fun hc14=>?_)
        ·
         try simp at hc14
         replace F:=F.add hc14
         refine W.skip ?_
         refine hK16 _ ?_
         clear hK16 K16
         refine W.seqk fun K17 hK17=>?_
         refine W.block ?_
         have hkm:k < dd b:=by omega
         have hkP:k < X.length:=by omega
         have hkQ:k < Y.length:=by omega
         obtain ⟨h1w,h2w⟩:=qxi k hkP hkQ
         have hw1:Y[k].lo≤X[k].lo:=h1w
         have hw2:X[k].hi≤Y[k].hi:=h2w
         replace F:=F.add hkm |>.add hkP |>.add hkQ |>.add hw1 |>.add hw2
         refine wD 8 [] [[],[],[1,0],[0,1,2],[],[],[5,4],[4,5,6],[6,5,4,7,2,1,0,3],[3,0,1,2,7,4,5,6,8]] ?_
         refine dB [([212,215,216,217,218],[],[]),([211,215,216,217,218],[false],[]),([215,216,217,218],[true,true],[]),([215,216,217,218],[true,true,true],[]),([211,212,213,214,216],[false,false,false,false],[]),([211,212,213,214,215],[false,false,false,false,false],[]),([211,212,213,214],[false,false,false,false,true,true],[]),([211,212,213,214],[false,false,false,false,true,true,true],[])] 0 8 ?_
         refine dD ?_
         refine oC [] ?_
         refine ct (Within_ok X[k] Y[k]) ?_
         refine oN 1 ?_
         refine oK [19,21,28,220] ?_
         refine cF ?_
         refine W.skip ?_
         refine hK17 _ ?_
         clear hK17 K17
         refine rEw ?_
         refine ⟨k + 1,lf0,v0,v0⟩
        ·
         try simp at hc14
         replace F:=F.add hc14
         refine W.exit ?_
         refine hK15 _ ?_
         clear hK16 K16 hK15 K15
         refine W.seqR ?_
         refine oC [] ?_
         refine ct (awake_ok) ?_
         refine oN 1 ?_
         refine oK [2] ?_
         refine W.ret ?_
         exact er0 false [] []
end Go.Sim
