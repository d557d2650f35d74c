/- The reference's weights, and limits. -/
import Derived.Test.YtojjfnhjmfokhaaGreatLl
import Derived.Test.YtojjfnhjmfokhaaGreatLg
import Derived.Test.YtojjfnhjmfokhaaGreatQp
namespace Go.Sim
set_option maxHeartbeats 4000000
open Go.Proofs
set_option maxRecDepth 100000
set_option linter.unusedSimpArgs false
set_option linter.unusedVariables false
attribute [-simp] List.map_set List.map_take List.map_drop
attribute [simp] spn_eta
theorem verd_same (x:Spn) (m:Int):verdC x m=verdX x m:=by
  have h:sure x m=true↔-m≤x.lo∧x.hi≤m:=by simp [sure]
  unfold verdC verdX
  by_cases c:sure x m=true
  · rw [if_pos c,if_pos (h.1 c)]
  · rw [if_neg c,if_neg (fun n=>c (h.2 n))]
    by_cases d:x.hi < -m∨m<x.lo
    · rw [if_pos d,if_pos (by omega)]
    · rw [if_neg d,if_neg (by omega)]
theorem rL0_same {b:Ben}(hv:ValidB b){s:Nat}(hs:s<b.scl.length){u:Tab}(hu:knownT b=some u):rerrL0 b s=(List.range (dd b)).map fun d=>⟨-(hi2 u 0 (dayN b s d)),hi2 u (dayN b s d) 0⟩:=by
  have h:=errL_same b (s:Int)
  rw [(err_yes hv hu hs).2] at h
  rw [←h]
  have h2:=chk_ok hv (s:=(s:Int)) (by omega)
  unfold rerrL
  simp [h2]
theorem rL0_at {b:Ben}(hv:ValidB b){s d:Nat}(hs:s<b.scl.length) (hd:d<dd b) (hk:knE b=0):∃h:d<(rerrL0 b s).length,∀o most:Int,0≤o∧o≤most→(rerrL0 b s)[d]=onX b s d o most:=by
  cases hu:knownT b with
  | none=>rw [kn_no hu] at hk;cases hk
  | some u =>
    have e:=rL0_same hv hs hu
    refine ⟨by rw [e];simpa using hd,fun o most ho=>?_⟩
    rw [onX_kn hv hu hs hd ho]
    simp [e]
theorem on_small {b:Ben}(hv:ValidB b){s d:Nat}(hs:s<b.scl.length) (hd:d<dd b) (hk:knE b=0){o most:Int}(ho:0≤o∧o≤most) : -1000000≤(onX b s d o most).lo∧(onX b s d o most).lo≤1000000∧-1000000≤(onX b s d o most).hi∧(onX b s d o most).hi≤1000000:=by
  cases hu:knownT b with
  | none=>rw [kn_no hu] at hk;cases hk
  | some u =>
    obtain ⟨_,_,_,b1,b2⟩:=span_same hv hu (v:=dayN b s d) (dayN_lt hs hd)
    rw [onX_kn hv hu hs hd ho]
    dsimp only
    omega
theorem rWeight_ok (b:Ben) (hLb:LenB b) (s day sh:Int):ACalls Tryz.prog 11 [benV b,I s,I day,I sh] [] (fun r o=>r = .tup [spnV (weiX b s day sh),I (weiE b s day sh)]∧o=[]):=by
 have F:=Fx.nil
 refine ent Tryz.func11 Tryz.ntmps11 Tryz.results11 ?_
 refine rK [1,2,3,4,8] ?_
 refine W.seqk fun K1 hK1=>?_
 refine W.seqR ?_
 refine oN 2 ?_
 refine oC [] ?_
 refine ct (rcheckScale_ok b hLb s) ?_
 refine oN 1 ?_
 refine oK [1,2,3,4,8,10] ?_
 refine rK [1,2,3,4,8,10,17] ?_
 refine it (fun hc1=>?_) (fun hc1=>?_)
 ·
  try simp at hc1
  replace F:=F.add hc1
  refine rK [8,9] ?_
  refine W.ret ?_
  refine tr ?_
  clear hK1 K1
  refine er false [] [] ?_
  first
  | (have e:weiE b s day sh=chkSc b s:=by (unfold weiE onE;rw [if_pos hc1])
     have e2:weiX b s day sh=⟨0,0⟩:=by (unfold weiX;rw [e,if_neg hc1])
     rw [e,e2];exact ⟨rfl,rfl⟩)
  | (rw [qsn,qdn,hwx,hwe];exact ⟨rfl,rfl⟩)
  | (have e:weiE b sk dk sh=knE b:=onE_kn qv hskl qdd qs
     have e2:weiX b sk dk sh=⟨0,0⟩:=by (unfold weiX;rw [e,if_neg hk])
     rw [qsn,qdn,e,e2];exact ⟨rfl,rfl⟩)
  | (have q9:(!inB day 0 b.days || !inB sh 0 2000000)=true:=by (first | (simp only [hs2];simp) | (simp only [hd];simp) | simp_all)
     have e:weiE b s day sh=1:=by (unfold weiE onE;rw [if_neg (fun n=>n qc0),if_pos q9])
     have e2:weiX b s day sh=⟨0,0⟩:=by (unfold weiX;rw [e,if_neg (by decide)])
     (try rw [←qsn]);rw [e,e2];exact ⟨rfl,rfl⟩)
 ·
  try simp at hc1
  replace F:=F.add hc1
  refine W.skip ?_
  refine hK1 _ ?_
  clear hK1 K1
  refine W.seqk fun K2 hK2=>?_
  have qc0:chkSc b s=0:=by simpa using hc1
  obtain ⟨qv,q1,q2⟩:=chkSc_zero.1 qc0
  obtain ⟨sk,qsn⟩:∃n:Nat,s=(n:Int):=⟨s.toNat,by omega⟩
  have hsn:=qsn
  have hskl:sk<b.scl.length:=by omega
  have qe:=rerrs_ok b qv sk hskl
  rw [knE_same qv] at qe
  replace F:=F.add hsn |>.add hskl
  by_cases hd:inB day 0 b.days=true
  ·
   replace F:=F.add hd
   by_cases hs2:inB sh 0 2000000=true
   ·
    replace F:=F.add hs2
    refine W.seqR ?_
    refine oN 3 ?_
    refine oC [] ?_
    refine ct (within_ok day 0 b.days) ?_
    refine oN 2 ?_
    refine gT ?_
    refine gC [] ?_
    refine ct (within_ok sh 0 2000000) ?_
    refine gT ?_
    refine oN 1 ?_
    refine oK [1,2,3,4,8,29] ?_
    refine cF ?_
    refine W.skip ?_
    refine hK2 _ ?_
    clear hK2 K2
    have qd:=inB_iff.1 hd
    have qs:=inB_iff.1 hs2
    obtain ⟨dk,qdn⟩:∃n:Nat,day=(n:Int):=⟨day.toNat,by omega⟩
    have hdn:=qdn
    have qdd:dk<dd b:=by unfold dd;omega
    replace F:=F.add hdn
    refine W.seqR ?_
    refine oN 2 ?_
    refine oC [] ?_
    refine ct (qe) ?_
    refine oN 5 ?_
    refine oK [2,3,8,11,12] ?_
    refine W.seqk fun K3 hK3=>?_
    by_cases hk:knE b=0
    ·
     replace F:=F.add hk
     obtain ⟨qL1,qL2⟩:=rL0_at qv hskl qdd hk
     have qX:=qL2 sh 2000000 qs
     have qsm:=on_small qv hskl qdd hk qs
     obtain ⟨L,qL⟩:∃L,rerrL0 b sk=L:=⟨_,rfl⟩
     have hL:=qL
     obtain ⟨X,qXX⟩:∃X,onX b sk dk sh 2000000=X:=⟨_,rfl⟩
     rw [qXX] at qX qsm
     have hdL:dk<L.length:=by rw [←qL];exact qL1
     have hdLi:(dk:Int)<(L.length:Int):=by omega
     have hLX:L[dk]=X:=by subst qL;exact qX
     have hwe:weiE b sk dk sh=0:=(onE_kn qv hskl qdd qs).trans hk
     have hw1:IntKind.i64.wrap (sh-X.hi)=sh-X.hi:=wrap_i64 (by omega) (by omega)
     have hw2:IntKind.i64.wrap (sh-X.lo)=sh-X.lo:=wrap_i64 (by omega) (by omega)
     have hwx:weiX b sk dk sh=⟨sh-X.hi,sh-X.lo⟩:=by unfold weiX;rw [if_pos hwe,qXX,hw1,hw2]
     replace F:=F.add hL |>.add hdL |>.add hdLi |>.add hLX |>.add hwe |>.add hw1 |>.add hw2 |>.add hwx
     refine rK [2,3,8,11,12,38] ?_
     refine cF ?_
     refine W.skip ?_
     refine hK3 _ ?_
     clear hK3 K3
     refine wD 14 [] [[],[],[],[2,1],[1,2,3],[3,2,1,4],[4,1,2,3,5,0],[],[],[],[9,8],[8,9,10],[10,9,8,11],[11,8,9,10,12,7],[7,12,10,9,8,11,13,0,5,3,2,1,4,6],[6,4,1,2,3,5,0,13,11,8,9,10,12,7,14],[14,7,12,10,9,8,11,13,0,5,3,2,1,4,6,15]] ?_
     refine dB [([42,43,44,45,46,48,49,50,51,52,53,54],[],[]),([41,43,48,49,50,51,52,53,54],[false],[]),([41,42,48,49,50,51,52,53,54],[false,false],[]),([41,48,49,50,51,52,53,54],[false,true,true],[]),([41,48,49,50,51,52,53,54],[false,true,true,true],[]),([41,48,49,50,51,52,53,54],[false,true,true,true,true],[]),([48,49,50,51,52,53,54],[true,true,true,true,true,true],[]),([41,42,43,44,45,46,47,49,50,51,52,53],[false,false,false,false,false,false,false],[]),([41,42,43,44,45,46,47,48,50],[false,false,false,false,false,false,false,false],[]),([41,42,43,44,45,46,47,48,49],[false,false,false,false,false,false,false,false,false],[]),([41,42,43,44,45,46,47,48],[false,false,false,false,false,false,false,false,true,true],[]),([41,42,43,44,45,46,47,48],[false,false,false,false,false,false,false,false,true,true,true],[]),([41,42,43,44,45,46,47,48],[false,false,false,false,false,false,false,false,true,true,true,true],[]),([41,42,43,44,45,46,47],[false,false,false,false,false,false,false,true,true,true,true,true,true],[])] 0 14 ?_
     refine dD ?_
     refine oN 3 ?_
     refine oK [8,9] ?_
     refine W.ret ?_
     refine er false [] [] ?_
     first
     | (have e:weiE b s day sh=chkSc b s:=by (unfold weiE onE;rw [if_pos hc1])
        have e2:weiX b s day sh=⟨0,0⟩:=by (unfold weiX;rw [e,if_neg hc1])
        rw [e,e2];exact ⟨rfl,rfl⟩)
     | (rw [qsn,qdn,hwx,hwe];exact ⟨rfl,rfl⟩)
     | (have e:weiE b sk dk sh=knE b:=onE_kn qv hskl qdd qs
        have e2:weiX b sk dk sh=⟨0,0⟩:=by (unfold weiX;rw [e,if_neg hk])
        rw [qsn,qdn,e,e2];exact ⟨rfl,rfl⟩)
     | (have q9:(!inB day 0 b.days || !inB sh 0 2000000)=true:=by (first | (simp only [hs2];simp) | (simp only [hd];simp) | simp_all)
        have e:weiE b s day sh=1:=by (unfold weiE onE;rw [if_neg (fun n=>n qc0),if_pos q9])
        have e2:weiX b s day sh=⟨0,0⟩:=by (unfold weiX;rw [e,if_neg (by decide)])
        (try rw [←qsn]);rw [e,e2];exact ⟨rfl,rfl⟩)
    ·
     replace F:=F.add hk
     refine rK [2,3,8,11,12,38] ?_
     refine cT ?_
     refine rK [8,9] ?_
     refine W.ret ?_
     refine tr ?_
     clear hK3 K3
     refine er false [] [] ?_
     first
     | (have e:weiE b s day sh=chkSc b s:=by (unfold weiE onE;rw [if_pos hc1])
        have e2:weiX b s day sh=⟨0,0⟩:=by (unfold weiX;rw [e,if_neg hc1])
        rw [e,e2];exact ⟨rfl,rfl⟩)
     | (rw [qsn,qdn,hwx,hwe];exact ⟨rfl,rfl⟩)
     | (have e:weiE b sk dk sh=knE b:=onE_kn qv hskl qdd qs
        have e2:weiX b sk dk sh=⟨0,0⟩:=by (unfold weiX;rw [e,if_neg hk])
        rw [qsn,qdn,e,e2];exact ⟨rfl,rfl⟩)
     | (have q9:(!inB day 0 b.days || !inB sh 0 2000000)=true:=by (first | (simp only [hs2];simp) | (simp only [hd];simp) | simp_all)
        have e:weiE b s day sh=1:=by (unfold weiE onE;rw [if_neg (fun n=>n qc0),if_pos q9])
        have e2:weiX b s day sh=⟨0,0⟩:=by (unfold weiX;rw [e,if_neg (by decide)])
        (try rw [←qsn]);rw [e,e2];exact ⟨rfl,rfl⟩)
   ·
    replace F:=F.add hs2
    refine W.seqR ?_
    refine oN 3 ?_
    refine oC [] ?_
    refine ct (within_ok day 0 b.days) ?_
    refine oN 2 ?_
    refine gT ?_
    refine gC [] ?_
    refine ct (within_ok sh 0 2000000) ?_
    refine gT ?_
    refine oN 1 ?_
    refine oK [1,2,3,4,8,29] ?_
    refine cT ?_
    refine rK [8,9] ?_
    refine W.ret ?_
    refine tr ?_
    clear hK2 K2
    refine er false [] [] ?_
    first
    | (have e:weiE b s day sh=chkSc b s:=by (unfold weiE onE;rw [if_pos hc1])
       have e2:weiX b s day sh=⟨0,0⟩:=by (unfold weiX;rw [e,if_neg hc1])
       rw [e,e2];exact ⟨rfl,rfl⟩)
    | (rw [qsn,qdn,hwx,hwe];exact ⟨rfl,rfl⟩)
    | (have e:weiE b sk dk sh=knE b:=onE_kn qv hskl qdd qs
       have e2:weiX b sk dk sh=⟨0,0⟩:=by (unfold weiX;rw [e,if_neg hk])
       rw [qsn,qdn,e,e2];exact ⟨rfl,rfl⟩)
    | (have q9:(!inB day 0 b.days || !inB sh 0 2000000)=true:=by (first | (simp only [hs2];simp) | (simp only [hd];simp) | simp_all)
       have e:weiE b s day sh=1:=by (unfold weiE onE;rw [if_neg (fun n=>n qc0),if_pos q9])
       have e2:weiX b s day sh=⟨0,0⟩:=by (unfold weiX;rw [e,if_neg (by decide)])
       (try rw [←qsn]);rw [e,e2];exact ⟨rfl,rfl⟩)
  ·
   replace F:=F.add hd
   refine W.seqR ?_
   refine oN 3 ?_
   refine oC [] ?_
   refine ct (within_ok day 0 b.days) ?_
   refine oN 2 ?_
   refine gF ?_
   refine gF ?_
   refine gF ?_
   refine oN 1 ?_
   refine oK [1,2,3,4,8,29] ?_
   refine cT ?_
   refine rK [8,9] ?_
   refine W.ret ?_
   refine tr ?_
   clear hK2 K2
   refine er false [] [] ?_
   first
   | (have e:weiE b s day sh=chkSc b s:=by (unfold weiE onE;rw [if_pos hc1])
      have e2:weiX b s day sh=⟨0,0⟩:=by (unfold weiX;rw [e,if_neg hc1])
      rw [e,e2];exact ⟨rfl,rfl⟩)
   | (rw [qsn,qdn,hwx,hwe];exact ⟨rfl,rfl⟩)
   | (have e:weiE b sk dk sh=knE b:=onE_kn qv hskl qdd qs
      have e2:weiX b sk dk sh=⟨0,0⟩:=by (unfold weiX;rw [e,if_neg hk])
      rw [qsn,qdn,e,e2];exact ⟨rfl,rfl⟩)
   | (have q9:(!inB day 0 b.days || !inB sh 0 2000000)=true:=by (first | (simp only [hs2];simp) | (simp only [hd];simp) | simp_all)
      have e:weiE b s day sh=1:=by (unfold weiE onE;rw [if_neg (fun n=>n qc0),if_pos q9])
      have e2:weiX b s day sh=⟨0,0⟩:=by (unfold weiX;rw [e,if_neg (by decide)])
      (try rw [←qsn]);rw [e,e2];exact ⟨rfl,rfl⟩)
theorem rKeeps_ok (b:Ben) (hLb:LenB b) (s day l:Int):ACalls Tryz.prog 13 [benV b,I s,I day,I l] [] (fun r o=>r = .tup [I (keeV b s day l),I (keeE b s day l)]∧o=[]):=by
 have F:=Fx.nil
 refine ent Tryz.func13 Tryz.ntmps13 Tryz.results13 ?_
 refine rK [1,2,3,4] ?_
 refine W.seqk fun K1 hK1=>?_
 refine W.seqR ?_
 refine oN 2 ?_
 refine oC [] ?_
 refine ct (rcheckScale_ok b hLb s) ?_
 refine oN 1 ?_
 refine oK [1,2,3,4,10] ?_
 refine rK [1,2,3,4,10,17] ?_
 refine it (fun hc1=>?_) (fun hc1=>?_)
 ·
  try simp at hc1
  replace F:=F.add hc1
  refine rK [8,9] ?_
  refine W.ret ?_
  refine tr ?_
  clear hK1 K1
  refine er false [] [] ?_
  first
  | (have e:keeE b s day l=chkSc b s:=by (unfold keeE onE;rw [if_pos hc1])
     have e2:keeV b s day l=0:=by (unfold keeV;rw [e,if_neg hc1])
     rw [e,e2];exact ⟨rfl,rfl⟩)
  | (rw [qsn,qdn,hwx,hwe];exact ⟨rfl,rfl⟩)
  | (have e:keeE b sk dk l=knE b:=keeE_kn qv hskl qdd qs
     have e2:keeV b sk dk l=0:=by (unfold keeV;rw [e,if_neg hk])
     rw [qsn,qdn,e,e2];exact ⟨rfl,rfl⟩)
  | (have q9:(!inB day 0 b.days || !inB l 0 10000)=true:=by (first | (simp only [hs2];simp) | (simp only [hd];simp) | simp_all)
     have e:keeE b s day l=1:=by (unfold keeE onE;rw [if_neg (fun n=>n qc0),if_pos q9])
     have e2:keeV b s day l=0:=by (unfold keeV;rw [e,if_neg (by decide)])
     (try rw [←qsn]);rw [e,e2];exact ⟨rfl,rfl⟩)
 ·
  try simp at hc1
  replace F:=F.add hc1
  refine W.skip ?_
  refine hK1 _ ?_
  clear hK1 K1
  refine W.seqk fun K2 hK2=>?_
  have qc0:chkSc b s=0:=by simpa using hc1
  obtain ⟨qv,q1,q2⟩:=chkSc_zero.1 qc0
  obtain ⟨sk,qsn⟩:∃n:Nat,s=(n:Int):=⟨s.toNat,by omega⟩
  have hsn:=qsn
  have hskl:sk<b.scl.length:=by omega
  have qe:=rerrs_ok b qv sk hskl
  rw [knE_same qv] at qe
  replace F:=F.add hsn |>.add hskl
  by_cases hd:inB day 0 b.days=true
  ·
   replace F:=F.add hd
   by_cases hs2:inB l 0 10000=true
   ·
    replace F:=F.add hs2
    refine W.seqR ?_
    refine oN 3 ?_
    refine oC [] ?_
    refine ct (within_ok day 0 b.days) ?_
    refine oN 2 ?_
    refine gT ?_
    refine gC [] ?_
    refine ct (within_ok l 0 10000) ?_
    refine gT ?_
    refine oN 1 ?_
    refine oK [1,2,3,4,28] ?_
    refine cF ?_
    refine W.skip ?_
    refine hK2 _ ?_
    clear hK2 K2
    have qd:=inB_iff.1 hd
    have qs:=inB_iff.1 hs2
    obtain ⟨dk,qdn⟩:∃n:Nat,day=(n:Int):=⟨day.toNat,by omega⟩
    have hdn:=qdn
    have qdd:dk<dd b:=by unfold dd;omega
    replace F:=F.add hdn
    refine W.seqR ?_
    refine oN 2 ?_
    refine oC [] ?_
    refine ct (qe) ?_
    refine oN 5 ?_
    refine oK [2,3,11,12] ?_
    refine W.seqk fun K3 hK3=>?_
    by_cases hk:knE b=0
    ·
     replace F:=F.add hk
     obtain ⟨qL1,qL2⟩:=rL0_at qv hskl qdd hk
     have qX:=qL2 l 10000 qs
     obtain ⟨L,qL⟩:∃L,rerrL0 b sk=L:=⟨_,rfl⟩
     have hL:=qL
     obtain ⟨X,qXX⟩:∃X,onX b sk dk l 10000=X:=⟨_,rfl⟩
     rw [qXX] at qX
     have hdL:dk<L.length:=by rw [←qL];exact qL1
     have hdLi:(dk:Int)<(L.length:Int):=by omega
     have hLX:L[dk]=X:=by subst qL;exact qX
     have hwe:keeE b sk dk l=0:=(keeE_kn qv hskl qdd qs).trans hk
     have hwx:keeV b sk dk l=verdC X l:=by unfold keeV;rw [if_pos hwe,qXX,verd_same]
     replace F:=F.add hL |>.add hdL |>.add hdLi |>.add hLX |>.add hwe |>.add hwx
     refine rK [2,3,11,12,36] ?_
     refine cF ?_
     refine W.skip ?_
     refine hK3 _ ?_
     clear hK3 K3
     refine W.seqR ?_
     refine oN 5 ?_
     refine oC [] ?_
     refine ct (verdict_ok X l (by omega) (by omega)) ?_
     refine oN 2 ?_
     refine oK [8,9] ?_
     refine W.ret ?_
     refine er false [] [] ?_
     first
     | (have e:keeE b s day l=chkSc b s:=by (unfold keeE onE;rw [if_pos hc1])
        have e2:keeV b s day l=0:=by (unfold keeV;rw [e,if_neg hc1])
        rw [e,e2];exact ⟨rfl,rfl⟩)
     | (rw [qsn,qdn,hwx,hwe];exact ⟨rfl,rfl⟩)
     | (have e:keeE b sk dk l=knE b:=keeE_kn qv hskl qdd qs
        have e2:keeV b sk dk l=0:=by (unfold keeV;rw [e,if_neg hk])
        rw [qsn,qdn,e,e2];exact ⟨rfl,rfl⟩)
     | (have q9:(!inB day 0 b.days || !inB l 0 10000)=true:=by (first | (simp only [hs2];simp) | (simp only [hd];simp) | simp_all)
        have e:keeE b s day l=1:=by (unfold keeE onE;rw [if_neg (fun n=>n qc0),if_pos q9])
        have e2:keeV b s day l=0:=by (unfold keeV;rw [e,if_neg (by decide)])
        (try rw [←qsn]);rw [e,e2];exact ⟨rfl,rfl⟩)
    ·
     replace F:=F.add hk
     refine rK [2,3,11,12,36] ?_
     refine cT ?_
     refine rK [8,9] ?_
     refine W.ret ?_
     refine tr ?_
     clear hK3 K3
     refine er false [] [] ?_
     first
     | (have e:keeE b s day l=chkSc b s:=by (unfold keeE onE;rw [if_pos hc1])
        have e2:keeV b s day l=0:=by (unfold keeV;rw [e,if_neg hc1])
        rw [e,e2];exact ⟨rfl,rfl⟩)
     | (rw [qsn,qdn,hwx,hwe];exact ⟨rfl,rfl⟩)
     | (have e:keeE b sk dk l=knE b:=keeE_kn qv hskl qdd qs
        have e2:keeV b sk dk l=0:=by (unfold keeV;rw [e,if_neg hk])
        rw [qsn,qdn,e,e2];exact ⟨rfl,rfl⟩)
     | (have q9:(!inB day 0 b.days || !inB l 0 10000)=true:=by (first | (simp only [hs2];simp) | (simp only [hd];simp) | simp_all)
        have e:keeE b s day l=1:=by (unfold keeE onE;rw [if_neg (fun n=>n qc0),if_pos q9])
        have e2:keeV b s day l=0:=by (unfold keeV;rw [e,if_neg (by decide)])
        (try rw [←qsn]);rw [e,e2];exact ⟨rfl,rfl⟩)
   ·
    replace F:=F.add hs2
    refine W.seqR ?_
    refine oN 3 ?_
    refine oC [] ?_
    refine ct (within_ok day 0 b.days) ?_
    refine oN 2 ?_
    refine gT ?_
    refine gC [] ?_
    refine ct (within_ok l 0 10000) ?_
    refine gT ?_
    refine oN 1 ?_
    refine oK [1,2,3,4,28] ?_
    refine cT ?_
    refine rK [8,9] ?_
    refine W.ret ?_
    refine tr ?_
    clear hK2 K2
    refine er false [] [] ?_
    first
    | (have e:keeE b s day l=chkSc b s:=by (unfold keeE onE;rw [if_pos hc1])
       have e2:keeV b s day l=0:=by (unfold keeV;rw [e,if_neg hc1])
       rw [e,e2];exact ⟨rfl,rfl⟩)
    | (rw [qsn,qdn,hwx,hwe];exact ⟨rfl,rfl⟩)
    | (have e:keeE b sk dk l=knE b:=keeE_kn qv hskl qdd qs
       have e2:keeV b sk dk l=0:=by (unfold keeV;rw [e,if_neg hk])
       rw [qsn,qdn,e,e2];exact ⟨rfl,rfl⟩)
    | (have q9:(!inB day 0 b.days || !inB l 0 10000)=true:=by (first | (simp only [hs2];simp) | (simp only [hd];simp) | simp_all)
       have e:keeE b s day l=1:=by (unfold keeE onE;rw [if_neg (fun n=>n qc0),if_pos q9])
       have e2:keeV b s day l=0:=by (unfold keeV;rw [e,if_neg (by decide)])
       (try rw [←qsn]);rw [e,e2];exact ⟨rfl,rfl⟩)
  ·
   replace F:=F.add hd
   refine W.seqR ?_
   refine oN 3 ?_
   refine oC [] ?_
   refine ct (within_ok day 0 b.days) ?_
   refine oN 2 ?_
   refine gF ?_
   refine gF ?_
   refine gF ?_
   refine oN 1 ?_
   refine oK [1,2,3,4,28] ?_
   refine cT ?_
   refine rK [8,9] ?_
   refine W.ret ?_
   refine tr ?_
   clear hK2 K2
   refine er false [] [] ?_
   first
   | (have e:keeE b s day l=chkSc b s:=by (unfold keeE onE;rw [if_pos hc1])
      have e2:keeV b s day l=0:=by (unfold keeV;rw [e,if_neg hc1])
      rw [e,e2];exact ⟨rfl,rfl⟩)
   | (rw [qsn,qdn,hwx,hwe];exact ⟨rfl,rfl⟩)
   | (have e:keeE b sk dk l=knE b:=keeE_kn qv hskl qdd qs
      have e2:keeV b sk dk l=0:=by (unfold keeV;rw [e,if_neg hk])
      rw [qsn,qdn,e,e2];exact ⟨rfl,rfl⟩)
   | (have q9:(!inB day 0 b.days || !inB l 0 10000)=true:=by (first | (simp only [hs2];simp) | (simp only [hd];simp) | simp_all)
      have e:keeE b s day l=1:=by (unfold keeE onE;rw [if_neg (fun n=>n qc0),if_pos q9])
      have e2:keeV b s day l=0:=by (unfold keeV;rw [e,if_neg (by decide)])
      (try rw [←qsn]);rw [e,e2];exact ⟨rfl,rfl⟩)
end Go.Sim
