/- The reference's fewest results that contradict each other. -/
import Derived.Test.YtojjfnhjmfokhaaLu
import Derived.Test.YtojjfnhjmfokhaaLk
namespace Go.Sim
set_option maxHeartbeats 4000000
open Go.Proofs
set_option maxRecDepth 100000
set_option linter.unusedSimpArgs false
set_option linter.unusedVariables false
attribute [-simp] List.map_set List.map_take List.map_drop
attribute [simp] spn_eta
def wthP (b:Ben) (l:List Nat) (i:Nat):List Bool:=(l.take i).foldl (fun u k=>u.set k true) (List.replicate (resN b) false)
theorem wthP_len (b:Ben) (l:List Nat) (i:Nat):(wthP b l i).length=resN b:=by unfold wthP;rw [setAll_len,List.length_replicate]
theorem wthP_succ {b:Ben}{l:List Nat}{i:Nat}(h:i<l.length):wthP b l (i+1)=(wthP b l i).set l[i] true:=by
  unfold wthP
  rw [List.take_succ_eq_append_getElem h,List.foldl_append];rfl
theorem wthP_all (b:Ben) (l:List Nat):wthP b l l.length=wthU b l:=by unfold wthP wthU;rw [List.take_length]
theorem rWith_own (b:Ben) (hLb:b.wei.length≤1000∧b.tri.length≤1000) (l:List Nat) (hl:∀i∈l,i<resN b) (hll:l.length≤1000):ACalls Try.prog 72 [benV b,ints (intL l)] [] (fun r o=>r = .own 20000 0 (resN b)∧o=[(20000,.row true 4 1 ((wthU b l).map B))]):=by
 have F:=Fx.nil
 replace F:=F.add hll
 refine ent Try.func72 Try.ntmps72 Try.results72 ?_
 have hil2:(intL l).length=l.length:=intL_len l
 obtain ⟨U,qU⟩:∃U:Nat→List Bool,U=wthP b l:=⟨_,rfl⟩
 obtain ⟨N,qN⟩:∃N,resN b=N:=⟨_,rfl⟩
 have hnr:nRes b=N:=qN
 have hU0:List.replicate N (B false)=(U 0).map B:=by rw [qU,←qN];simp [wthP]
 have hUl:∀i,(U i).length=N:=fun i=>by rw [qU,←qN];exact wthP_len b l i
 replace F:=F.add hil2 |>.add hnr |>.add hU0 |>.add hUl
 refine rK [1,2] ?_
 refine W.seqR ?_
 refine oN 1 ?_
 refine oC [] ?_
 refine ct (None_ok b hLb) ?_
 refine oN 1 ?_
 refine oK [1,5] ?_
 refine W.seqk fun K1 hK1=>?_
 refine rK [1,5,6] ?_
 refine W.block ?_
 refine lpa (α:=Nat) [1,5] [11] [64] (fun i=>[(6,I i)]) (fun i=>[(64,.row true 4 1 ((U i).map B))]) (fun i=>i≤l.length) (fun i=>l.length-i) 0 v0 ?_
 ·
  intro i hI0
  simp only [List.cons_append,List.nil_append]
  try dsimp only at hI0
  replace F:=F.add hI0
  refine W.seqk fun K2 hK2=>?_
  refine rK [1,5,6,12] ?_
  refine it (fun hc1=>?_) (fun hc1=>?_)
  ·
   try simp at hc1
   replace F:=F.add hc1
   refine W.skip ?_
   refine hK2 _ ?_
   clear hK2 K2
   refine W.seqk fun K3 hK3=>?_
   refine W.block ?_
   have hil:i<l.length:=by omega
   obtain ⟨k,qk⟩:∃k,l[i]=k:=⟨_,rfl⟩
   have hik:(intL l)[i]'(by rw [intL_len];exact hil)=(k:Int):=by rw [←qk];simp [intL]
   have hkr:k<N:=by rw [←qk,←qN];exact hl _ (List.getElem_mem hil)
   have hkri:(k:Int)<(N:Int):=by omega
   have hUs:U (i+1)=(U i).set k true:=by rw [qU,wthP_succ hil,qk]
   replace F:=F.add hil |>.add hik |>.add hkr |>.add hkri |>.add hUs
   refine rE ?_
   refine hK3 _ ?_
   clear hK3 K3
   refine rEw ?_
   refine ⟨i+1,lf0,v0,v0⟩
  ·
   try simp at hc1
   replace F:=F.add hc1
   refine W.exit ?_
   refine hK1 _ ?_
   clear hK2 K2 hK1 K1
   refine rK [4] ?_
   refine W.ret ?_
   refine er false [] [(20000,64)] ?_
   rw [qN];obtain rfl:i=l.length:=by omega
   exact ⟨rfl,by rw [qU,wthP_all]⟩
theorem rWith_imm (b:Ben) (hLb:b.wei.length≤1000∧b.tri.length≤1000) (l:List Nat) (hl:∀i∈l,i<resN b) (hll:l.length≤1000):ACalls Try.prog 72 [benV b,ints (intL l)] [] (fun r o=>r=bools (wthU b l)∧o=[]):=frzB (l:=wthU b l) (by rw [wthU_len];exact rWith_own b hLb l hl hll)
theorem rClash_ok (b:Ben) (hLb:LenB b):ACalls Try.prog 20 [benV b] [] (fun r o=>r = .tup [ints (rclL b),I (rclE b)]∧o=[]):=by
 have F:=Fx.nil
 refine ent Try.func20 Try.ntmps20 Try.results20 ?_
 refine rK [1] ?_
 refine W.seqk fun K1 hK1=>?_
 refine W.seqR ?_
 refine oN 1 ?_
 refine oC [] ?_
 refine ct (rCheck_ok b ⟨hLb.mas,hLb.wei,hLb.scl,hLb.tri⟩) ?_
 refine oN 1 ?_
 refine oK [1,4] ?_
 refine rK [1,4,16] ?_
 refine it (fun hc1=>?_) (fun hc1=>?_)
 ·
  try simp at hc1
  replace F:=F.add hc1
  refine rK [2,3] ?_
  refine W.ret ?_
  refine tr ?_
  clear hK1 K1
  refine er true [] [] ?_
  exact ⟨by unfold rclL rclE;rw [if_neg hc1,if_neg hc1];rfl,rfl⟩
 ·
  try simp at hc1
  replace F:=F.add hc1
  refine W.skip ?_
  refine hK1 _ ?_
  clear hK1 K1
  refine W.seqk fun K2 hK2=>?_
  have hv:ValidB b:=checkB_zero.1 (by simpa using hc1)
  have hw6:b.wei.length≤6:=hv.w6
  have ht6:b.tri.length≤6:=hv.t6
  obtain ⟨N,qN⟩:∃N,resN b=N:=⟨_,rfl⟩
  have qN2:b.wei.length+b.tri.length=N:=qN
  have hNi:(b.wei.length:Int)+(b.tri.length:Int)=(N:Int):=by omega
  have hN12:N≤12:=by omega
  have qal:(allU b).length=b.wei.length+b.tri.length:=by unfold allU;rw [List.length_replicate];rfl
  have hwt:b.wei.length≤1000∧b.tri.length≤1000:=by omega
  replace F:=F.add hv |>.add hw6 |>.add ht6 |>.add hNi |>.add hN12 |>.add hwt
  refine wD 9 [(8,[40])] [[],[],[1],[1,2,0],[0,2,1,3],[3,1,2,0,4],[3,1,2,0,4],[],[4,0,2,1,3,5,7],[7,5,8,4,0,2,1,3,6]] ?_
  refine dB [([20,21,5],[],[]),([19,5],[false],[])] 7 2 ?_
  refine dC [19,5] [false,true] [] [] ?_
  refine cd (All_imm b ⟨by omega,by omega⟩) ?_
  refine dC [5] [true,true,true] [] [] ?_
  refine cd (Learn_ok b hv (allU b) qal) ?_
  refine dB [([5],[true,true,true,true],[]),([24,5],[true,true,true,true,true],[]),([23,5],[true,true,true,true,true,false],[40]),([19,20,21,22,18,23,24],[false,false,false,false,false,false,false],[])] 1 8 ?_
  refine WDraw.upd hΓ [40] (viewB_eq (L:=[24]) (S:=[true,true,true,true,true,true,false,true]) (O:=[]) (by kernel_rfl) (by kernel_rfl) (by simp [hc1,hv,hw6,ht6,hNi,hN12,hwt];rfl)) (by first | rfl | simp) (by simp [hc1,hv,hw6,ht6,hNi,hN12,hwt];first | rfl | exact ⟨rfl,rfl⟩) (by simp [hc1,hv,hw6,ht6,hNi,hN12,hwt];first | done | rfl) (.inr (by simp)) (by simp [hc1,hv,hw6,ht6,hNi,hN12,hwt];rfl) ?_
  refine dD ?_
  refine WOps.le Le.dedup rfl rfl ?_
  refine WOps.norm (by simp [hc1,hv,hw6,ht6,hNi,hN12,hwt];rfl) ?_
  refine oN 1 ?_
  refine oK [1,6] ?_
  by_cases hla:learnB b (allU b)=true
  ·
   replace F:=F.add hla
   refine rK [1,25] ?_
   refine cT ?_
   refine rK [2,3] ?_
   refine W.ret ?_
   refine tr ?_
   clear hK2 K2
   refine er true [] [] ?_
   exact ⟨by unfold rclL rclE;rw [if_pos hc1,if_pos hc1,if_pos (show learnB b (allR b)=true from hla),if_pos (show learnB b (allR b)=true from hla)];rfl,rfl⟩
  ·
   replace F:=F.add hla
   have qlf:learnB b (allR b)=false:=by simpa [allU_all] using hla
   have q0:N≠0:=fun e=>by
     have hb:=(all_bad hv).1 qlf
     rw [qN,e] at hb;exact base_some hv hb
   refine rK [1,25] ?_
   refine cF ?_
   refine W.skip ?_
   refine hK2 _ ?_
   clear hK2 K2
   refine rKw [1,7] ?_
   refine W.seqk fun K3 hK3=>?_
   refine rK [1,7,8] ?_
   refine W.block ?_
   refine lpa (α:=Nat) [1,7] [11,40,43,54,55] [] (fun k=>[(8,I ((k:Int)+1))]) (fun k=>[]) (fun k=>k≤N-1∧rclN b 1 (N-1)=rclN b (k+1) (N-1-k)) (fun k=>N-k) 0 v0 ?_
   ·
    intro k hI0
    simp only [List.cons_append,List.nil_append]
    try dsimp only at hI0
    obtain ⟨hk,kr⟩:=hI0
    replace F:=F.add hk
    refine W.seqk fun K4 hK4=>?_
    refine rK [1,7,8,35] ?_
    refine it (fun hc4=>?_) (fun hc4=>?_)
    ·
     try simp at hc4
     replace F:=F.add hc4
     refine W.skip ?_
     refine hK4 _ ?_
     clear hK4 K4
     refine W.seqk fun K5 hK5=>?_
     refine W.block ?_
     have hkN:k+1<N:=by omega
     obtain ⟨C,qC⟩:∃C,choN N (k+1) 0=C:=⟨_,rfl⟩
     have ihc:=Choices_ok N hN12 (k+1) 0 (by omega) (by omega)
     rw [qC] at ihc
     have qch:ACalls Try.prog 46 [I (0:Int),I N,I ((k:Int)+1)] [] (fun r o=>r=choV C∧o=[]):=by simpa using ihc
     have qCm:∀c∈C,(∀i∈c,i<N)∧c.length≤1000:=fun c hc=>by
       rw [←qC] at hc
       obtain ⟨g1,g2⟩:=choN_mem.1 hc
       exact ⟨g2.lt,by omega⟩
     have hCl:C.length≤4096:=by
       rw [←qC]
       exact Nat.le_trans (choN_len (k+1) 0 (by omega)) (Nat.le_trans (Nat.pow_le_pow_right (by decide) (show N-0≤12 by omega)) (by decide))
     replace F:=F.add hkN |>.add hCl
     refine W.seqR ?_
     refine oN 2 ?_
     refine oC [] ?_
     refine ct (qch) ?_
     refine oN 1 ?_
     refine oK [1,7,8,9] ?_
     refine rK [1,7,8,9,10] ?_
     refine W.block ?_
     refine lpa (α:=Nat) [1,7,8,9] [11,43,54,55] [] (fun j=>[(10,I j)]) (fun j=>[]) (fun j=>j≤C.length∧C.find? (badB b)=(C.drop j).find? (badB b)) (fun j=>C.length-j) 0 v0 ?_
     ·
      intro j hI1
      simp only [List.cons_append,List.nil_append]
      try dsimp only at hI1
      obtain ⟨hj,kf⟩:=hI1
      replace F:=F.add hj
      refine W.seqk fun K6 hK6=>?_
      refine rK [1,7,8,9,10,44] ?_
      refine it (fun hc5=>?_) (fun hc5=>?_)
      ·
       try simp at hc5
       replace F:=F.add hc5
       refine W.skip ?_
       refine hK6 _ ?_
       clear hK6 K6
       refine W.seqk fun K7 hK7=>?_
       refine W.block ?_
       have hjC:j<C.length:=by omega
       obtain ⟨c,qc⟩:∃c,C[j]=c:=⟨_,rfl⟩
       have hcj:=qc
       have hnr:natsR c = .imm ((intL c).map I):=rfl
       obtain ⟨qcm,qcl⟩:=qCm c (by rw [←qc];exact List.getElem_mem hjC)
       have qwl:(wthU b c).length=b.wei.length+b.tri.length:=by rw [wthU_len]
       have qdr:(C.drop j).find? (badB b)=if badB b c=true then some c else (C.drop (j+1)).find? (badB b):=by
         rw [List.drop_eq_getElem_cons hjC,qc,List.find?_cons]
         cases badB b c<;>rfl
       replace F:=F.add hjC |>.add hcj |>.add hnr
       refine wD 13 [(12,[88])] [[],[],[],[],[3,2],[2,3,4],[4,3,2,5,1],[1,5,2,3,4,6,0],[0,6,4,3,2,5,1,7],[7,1,5,2,3,4,6,0,8],[7,1,5,2,3,4,6,0,8],[],[8,0,6,4,3,2,5,1,7,9,11],[11,9,12,8,0,6,4,3,2,5,1,7,10]] ?_
       refine dB [([49,50,51,52,53,54,11],[],[]),([48,50,51,52,53,11],[false],[]),([48,49,51,11],[false,false],[]),([48,49,50,11],[false,false,false],[]),([48,49,11],[false,false,true,true],[]),([48,49,11],[false,false,true,true,true],[])] 7 6 ?_
       refine dC [48,11] [false,true,true,true,true,true] [] [] ?_
       refine cd (rWith_imm b ⟨by omega,by omega⟩ c (by rw [qN];exact qcm) qcl) ?_
       refine dC [11] [true,true,true,true,true,true,true] [] [] ?_
       refine cd (Learn_ok b hv (wthU b c) qwl) ?_
       refine dB [([11],[true,true,true,true,true,true,true,true],[]),([57,11],[true,true,true,true,true,true,true,true,true],[]),([56,11],[true,true,true,true,true,true,true,true,true,false],[88]),([48,49,50,51,52,53,54,55,47,56,57],[false,false,false,false,false,false,false,false,false,false,false],[])] 1 12 ?_
       refine WDraw.upd hΓ [88] (viewB_eq (L:=[57]) (S:=[true,true,true,true,true,true,true,true,true,true,false,true]) (O:=[]) (by kernel_rfl) (by kernel_rfl) (by simp [hc1,hv,hw6,ht6,hNi,hN12,hwt,hla,hk,hc4,hkN,hCl,hj,hc5,hjC,hcj,hnr];rfl)) (by first | rfl | simp) (by simp [hc1,hv,hw6,ht6,hNi,hN12,hwt,hla,hk,hc4,hkN,hCl,hj,hc5,hjC,hcj,hnr];first | rfl | exact ⟨rfl,rfl⟩) (by simp [hc1,hv,hw6,ht6,hNi,hN12,hwt,hla,hk,hc4,hkN,hCl,hj,hc5,hjC,hcj,hnr];first | done | rfl) (.inr (by simp)) (by simp [hc1,hv,hw6,ht6,hNi,hN12,hwt,hla,hk,hc4,hkN,hCl,hj,hc5,hjC,hcj,hnr];rfl) ?_
       refine dD ?_
       refine WOps.le Le.dedup rfl rfl ?_
       refine WOps.norm (by simp [hc1,hv,hw6,ht6,hNi,hN12,hwt,hla,hk,hc4,hkN,hCl,hj,hc5,hjC,hcj,hnr];rfl) ?_
       refine oN 1 ?_
       refine oK [1,7,8,9,10,12] ?_
       by_cases hlb:learnB b (wthU b c)=true
       ·
        replace F:=F.add hlb
        rw [if_neg (by unfold badB;rw [hlb];decide)] at qdr
        refine rK [1,7,8,9,10,59] ?_
        refine cF ?_
        refine W.skip ?_
        refine hK7 _ ?_
        clear hK7 K7
        refine rEw ?_
        refine ⟨j+1,lf0,v0,v0⟩
       ·
        replace F:=F.add hlb
        rw [if_pos (by unfold badB;simpa using hlb)] at qdr
        refine rK [1,7,8,9,10,59] ?_
        refine cT ?_
        refine rK [2,3] ?_
        refine W.ret ?_
        refine br (tr (tr (br (br (tr (tr (br (tr ?_))))))))
        clear hK7 K7 hK5 K5 hK3 K3
        refine er true [] [] ?_
        have e:rclF b=c:=by
          unfold rclF
          rw [qN,kr,show N-1-k=(N-1-k-1)+1 by omega,rclN,qN,qC,kf,qdr];rfl
        exact ⟨by unfold rclL rclE;rw [if_pos hc1,if_pos hc1,qlf,e];rfl,rfl⟩
      ·
       try simp at hc5
       replace F:=F.add hc5
       refine W.exit ?_
       refine hK5 _ ?_
       clear hK6 K6 hK5 K5
       have qfn:C.find? (badB b)=none:=kf.trans (by rw [List.drop_of_length_le (by omega)];rfl)
       refine rEw ?_
       refine ⟨k+1,lf0, ?_,v0⟩
       ·
        refine ⟨by omega,kr.trans ?_⟩
        rw [show N-1-k=(N-1-(k+1))+1 by omega,rclN,qN,qC,qfn]
    ·
     try simp at hc4
     replace F:=F.add hc4
     refine W.exit ?_
     refine hK3 _ ?_
     clear hK4 K4 hK3 K3
     have qcn:choN N N 0=[List.range N]:=by rw [choN_all (by omega),List.range_eq_range']
     have ihn:=Choices_ok N hN12 N 0 (by omega) (by omega)
     rw [qcn] at ihn
     have qch:ACalls Try.prog 46 [I (0:Int),I N,I N] [] (fun r o=>r=choV [List.range N]∧o=[]):=by simpa using ihn
     have hnr:natsR (List.range N) = .imm ((intL (List.range N)).map I):=rfl
     replace F:=F.add hnr
     refine W.seqR ?_
     refine oN 2 ?_
     refine oC [] ?_
     refine ct (qch) ?_
     refine oN 4 ?_
     refine oK [2,3] ?_
     refine W.ret ?_
     refine er true [] [] ?_
     have e:rclF b=List.range N:=by
       unfold rclF
       rw [qN,kr,show N-1-k=0 by omega];rfl
     exact ⟨by unfold rclL rclE;rw [if_pos hc1,if_pos hc1,qlf,e];rfl,rfl⟩
end Go.Sim
