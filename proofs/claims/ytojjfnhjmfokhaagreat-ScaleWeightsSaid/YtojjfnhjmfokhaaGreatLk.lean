/- Benches: what the reference says of masses and errors. -/
import Derived.Test.YtojjfnhjmfokhaaGreatLf
import Derived.Test.YtojjfnhjmfokhaaGreatLe
namespace Go.Sim
set_option maxHeartbeats 4000000
open Go.Proofs
set_option maxRecDepth 100000
set_option linter.unusedSimpArgs false
set_option linter.unusedVariables false
attribute [-simp] List.map_set List.map_take List.map_drop
def allU (b:Ben):List Bool:=List.replicate (nRes b) true
theorem allU_len (b:Ben):(allU b).length=b.wei.length+b.tri.length:=by unfold allU nRes;rw [List.length_replicate]
theorem frzB {f:Nat}{a:List AV}{l:List Bool}(h:ACalls Tryz.prog f a [] (fun r o=>r = .own 20000 0 l.length∧o=[(20000,.row true 4 1 (l.map B))])):ACalls Tryz.prog f a [] (fun r o=>r=bools l∧o=[]):=ACalls.frzs [20000] h (by simp;rfl) (by simp;rfl)
theorem All_imm (b:Ben) (hLb:b.wei.length≤1000∧b.tri.length≤1000):ACalls Tryz.prog 60 [benV b] [] (fun r o=>r=bools (allU b)∧o=[]):=frzB (l:=allU b) (by unfold allU;rw [List.length_replicate];exact All_ok b hLb)
def spanK (K:KT) (v:Nat):Spn:=⟨IntKind.i64.wrap (-(at1 K v 0)),at1 K 0 v⟩
def rerrK (K:KT) (b:Ben) (s n:Nat):List Spn:=(List.range n).map fun d=>spanK K (dayN b s d)
theorem rerrK_succ (K:KT) (b:Ben) (s n:Nat):rerrK K b s (n+1)=rerrK K b s n++[spanK K (dayN b s n)]:=by rw [rerrK,List.range_succ,List.map_append];rfl
theorem rerrK_len (K:KT) (b:Ben) (s n:Nat):(rerrK K b s n).length=n:=by simp [rerrK]
def rknE (b:Ben):Int:=if learnB b (allU b)=true then 0 else 9
def rerrL0 (b:Ben) (s:Nat):List Spn:=if rknE b=0 then rerrK (learnK b (allU b)) b s (dd b) else []
def rerrL (b:Ben) (s:Int):List Spn:=if chkSc b s≠0 then [] else rerrL0 b s.toNat
theorem kspan_ok (K:KT) (n:Nat) (hn1:1≤n) (hs:SqK n K) (v:Nat) (hv:v<n):ACalls Tryz.prog 61 [.agg [kV K],I v] [] (fun r o=>r=spnV (spanK K v)∧o=[]):=by
 have F:=Fx.nil
 refine ent Tryz.func61 Tryz.ntmps61 Tryz.results61 ?_
 have hl:K.length=n:=hs.1
 have hvn:v<n:=hv
 have hn0:0<n:=hn1
 have hK0:(K[0]'(by omega)).length=n:=hs.row (by omega)
 have hKv:(K[v]'(by omega)).length=n:=hs.row (by omega)
 obtain ⟨x,qx⟩:∃x,at1 K 0 v=x:=⟨_,rfl⟩
 obtain ⟨y,qy⟩:∃x,at1 K v 0=x:=⟨_,rfl⟩
 have hx:(K[0]'(by omega))[v]'(by omega)=x:=by rw [←at1_get];exact qx
 have hy:(K[v]'(by omega))[0]'(by omega)=y:=by rw [←at1_get];exact qy
 have hsp:spanK K v=⟨IntKind.i64.wrap (-y),x⟩:=by rw [spanK,qx,qy]
 replace F:=F.add hl |>.add hvn |>.add hn0 |>.add hK0 |>.add hKv |>.add hx |>.add hy |>.add hsp
 refine rK [1,2,4] ?_
 refine wD 15 [] [[],[0],[],[2,0,1],[1,0,2,3],[3,2,0,1,4],[4,1,0,2,3,5],[5,3,2,0,1,4,6],[],[8],[8,9],[9,8,10],[],[12,10,8,9,11],[11,9,8,10,12,13],[13,12,10,8,9,11,14,6,4,1,0,2,3,5,7],[7,5,3,2,0,1,4,6,14,11,9,8,10,12,13,15]] ?_
 refine dB [([7,13,14,15,16,17,18,19],[],[]),([7,13,14,15,16,17,18,19],[true],[]),([5,6,13,14,15,16,17,18,19],[false,false],[]),([13,14,15,16,17,18,19],[true,true,true],[]),([13,14,15,16,17,18,19],[true,true,true,true],[]),([13,14,15,16,17,18,19],[true,true,true,true,true],[]),([13,14,15,16,17,18,19],[true,true,true,true,true,true],[]),([13,14,15,16,17,18,19],[true,true,true,true,true,true,true],[]),([5,6,7,8,9,10,11,12,17],[false,false,false,false,false,false,false,false],[]),([5,6,7,8,9,10,11,12,17],[false,false,false,false,false,false,false,false,true],[]),([5,6,7,8,9,10,11,12,17],[false,false,false,false,false,false,false,false,true,true],[]),([5,6,7,8,9,10,11,12,17],[false,false,false,false,false,false,false,false,true,true,true],[]),([5,6,7,8,9,10,11,12,13,14,15,16],[false,false,false,false,false,false,false,false,false,false,false,false],[]),([5,6,7,8,9,10,11,12],[false,false,false,false,false,false,false,false,true,true,true,true,true],[]),([5,6,7,8,9,10,11,12],[false,false,false,false,false,false,false,false,true,true,true,true,true,true],[])] 0 15 ?_
 refine dD ?_
 refine oN 2 ?_
 refine oK [4] ?_
 refine W.ret ?_
 exact er0 false [] []
theorem rcheckScale_ok (b:Ben) (hLb:LenB b) (s:Int):ACalls Tryz.prog 35 [benV b,I s] [] (fun r o=>r=I (chkSc b s)∧o=[]):=by
 have F:=Fx.nil
 refine ent Tryz.func35 Tryz.ntmps35 Tryz.results35 ?_
 have hls9:b.scl.length≤1000:=hLb.scl
 replace F:=F.add hls9
 refine rK [1,2] ?_
 refine W.seqk fun K1 hK1=>?_
 refine W.seqR ?_
 refine oN 1 ?_
 refine oC [] ?_
 refine ct (rCheck_ok b ⟨hLb.mas,hLb.wei,hLb.scl,hLb.tri⟩) ?_
 refine oN 1 ?_
 refine oK [1,2,5] ?_
 refine rK [1,2,5,9] ?_
 refine it (fun hc1=>?_) (fun hc1=>?_)
 ·
  try simp at hc1
  replace F:=F.add hc1
  refine rK [4] ?_
  refine W.ret ?_
  refine tr ?_
  clear hK1 K1
  refine er false [] [] ?_
  simp_all [chkSc]
 ·
  try simp at hc1
  replace F:=F.add hc1
  refine W.skip ?_
  refine hK1 _ ?_
  clear hK1 K1
  refine W.seqk fun K2 hK2=>?_
  by_cases hs1:inB s 0 ((b.scl.length:Int)-1)=true
  ·
   replace F:=F.add hs1
   refine W.seqR ?_
   refine oNw 5 ?_
   refine oC [] ?_
   refine ct (within_ok _ _ _) ?_
   refine oN 1 ?_
   refine oK [17] ?_
   refine cF ?_
   refine W.skip ?_
   refine hK2 _ ?_
   clear hK2 K2
   refine rK [4] ?_
   refine W.ret ?_
   refine er false [] [] ?_
   simp_all [chkSc]
  ·
   replace F:=F.add hs1
   refine W.seqR ?_
   refine oNw 5 ?_
   refine oC [] ?_
   refine ct (within_ok _ _ _) ?_
   refine oN 1 ?_
   refine oK [17] ?_
   refine cT ?_
   refine rK [4] ?_
   refine W.ret ?_
   refine tr ?_
   clear hK2 K2
   refine er false [] [] ?_
   simp_all [chkSc]
theorem rerrL_ok {b:Ben}{s d:Nat}{K:KT}(hk:learnB b (allU b)=true) (qK:learnK b (allU b)=K) (hi:d=dd b):rerrL0 b s=(rerrK K b s d).take d∧rknE b=0:=by
  have e:rknE b=0:=by rw [rknE,if_pos hk]
  exact ⟨by rw [rerrL0,e,if_pos rfl,qK,hi,List.take_of_length_le (by rw [rerrK_len];exact Nat.le_refl _)],e⟩
theorem rerrs_ok (b:Ben) (qv:ValidB b) (s:Nat) (hsl:s<b.scl.length):ACalls Tryz.prog 37 [benV b,I s] [] (fun r o=>r = .tup [spansV (rerrL0 b s),I (rknE b)]∧o=[]):=by
 have F:=Fx.nil
 refine ent Tryz.func37 Tryz.ntmps37 Tryz.results37 ?_
 have h6:=qv.w6
 have h6':=qv.t6
 have hm5:b.mas.length≤5:=qv.m5
 have hs3:b.scl.length≤3:=qv.s3
 have qdy:=qv.days
 have hd1:0≤b.days:=qdy.1
 have hd2:b.days≤8:=qdy.2
 have qz:=sizeB_le qv
 obtain ⟨K,qK⟩:∃K,learnK b (allU b)=K:=⟨_,rfl⟩
 have qs:SqK (sizeB b) K:=by rw [←qK];exact learnK_sq qv _
 have qL:=Learn_ok b qv (allU b) (allU_len b)
 rw [qK] at qL
 replace F:=F.add h6 |>.add h6 |>.add hm5 |>.add hs3 |>.add hd1 |>.add hd2
 refine rK [1,2] ?_
 refine wD 9 [(8,[48])] [[],[],[1],[1,2,0],[0,2,1,3],[3,1,2,0,4],[3,1,2,0,4],[],[4,0,2,1,3,5,7],[7,5,8,4,0,2,1,3,6]] ?_
 refine dB [([12,13,6],[],[]),([11,6],[false],[])] 7 2 ?_
 refine dC [11,6] [false,true] [] [] ?_
 refine cd (All_imm b ⟨by omega,by omega⟩) ?_
 refine dC [6] [true,true,true] [] [] ?_
 refine cd (qL) ?_
 refine dB [([6],[true,true,true,true],[]),([16,6],[true,true,true,true,true],[]),([15,6],[true,true,true,true,true,false],[48]),([11,12,13,14,10,15,16],[false,false,false,false,false,false,false],[])] 1 8 ?_
 refine WDraw.upd hΓ [48] (viewB_eq (L:=[16]) (S:=[true,true,true,true,true,true,false,true]) (O:=[]) (by kernel_rfl) (by kernel_rfl) (by simp [h6,h6,hm5,hs3,hd1,hd2];rfl)) (by first | rfl | simp) (by simp [h6,h6,hm5,hs3,hd1,hd2];first | rfl | exact ⟨rfl,rfl⟩) (by simp [h6,h6,hm5,hs3,hd1,hd2];first | done | rfl) (.inr (by simp)) (by simp [h6,h6,hm5,hs3,hd1,hd2];rfl) ?_
 refine dD ?_
 refine WOps.le Le.dedup rfl rfl ?_
 refine WOps.norm (by simp [h6,h6,hm5,hs3,hd1,hd2];rfl) ?_
 refine oN 1 ?_
 refine oK [1,2,6,7] ?_
 refine W.seqk fun K1 hK1=>?_
 by_cases hk:learnB b (allU b)=true
 ·
  replace F:=F.add hk
  refine rK [1,2,6,18] ?_
  refine cF ?_
  refine W.skip ?_
  refine hK1 _ ?_
  clear hK1 K1
  refine rK [1,2,6,8] ?_
  refine W.seqk fun K2 hK2=>?_
  refine rK [1,2,6,8,9] ?_
  refine W.block ?_
  refine sn 8 9000 42 2 ?_
  refine lp (α:=Nat) [1,2,6] [30,31,32,33] [9000] (fun d=>[(9,I d),(8,.own 9000 0 d)]) (fun d=>[(9000,.row true 42 2 ((rerrK K b s d).map S2))]) (fun d=>(d:Int)≤b.days+1) (fun d=>(b.days+1).toNat-d) 0 ?_ ?_ v0 ?_
  ·
   exact v1
  ·
   try (simp [Fx.get F])
   all_goals (
    rfl
   )
  ·
   intro d hI0
   simp only [List.cons_append,List.nil_append]
   try dsimp only at hI0
   replace F:=F.add hI0
   refine W.seqk fun K3 hK3=>?_
   refine rK [1,2,6,8,9,22] ?_
   refine it (fun hc2=>?_) (fun hc2=>?_)
   ·
    try simp at hc2
    replace F:=F.add hc2
    refine W.skip ?_
    refine hK3 _ ?_
    clear hK3 K3
    refine W.seqk fun K4 hK4=>?_
    refine W.block ?_
    have hdl:(d:Int)≤b.days:=by omega
    have qsc:=rerrK_succ K b s d
    have qvn:dayN b s d<sizeB b:=dayN_lt hsl (by unfold dd;omega)
    obtain ⟨v,qv2⟩:∃v,dayN b s d=v:=⟨_,rfl⟩
    have qmc:=mistake_ok b (by omega) qdy s d (by omega) (by omega)
    rw [qv2] at qmc qvn qsc
    obtain ⟨x,qx⟩:∃x,spanK K v=x:=⟨_,rfl⟩
    have qkc:=kspan_ok K (sizeB b) (by omega) qs v qvn
    rw [qx] at qsc qkc
    have hsc:=qsc
    have hol:(rerrK K b s d).length=d:=rerrK_len K b s d
    replace F:=F.add hdl |>.add hsc |>.add hol
    refine wDe 8 [] [[],[],[],[],[],[4,3,2],[2,3,4,5,1],[1,5,4,3,2,6],[6,2,3,4,5,1,7,0],[0,7,1,5,4,3,2,6,8]] ?_
    refine dB [([26,27,28,29,30,31,32],[],[]),([25,27,28,29,30],[false],[]),([25,26,28,29],[false,false],[]),([25,26,27,29],[false,false,false],[]),([25,26,27,28],[false,false,false,false],[])] 3 5 ?_
    refine dC [25,26] [false,false,true,true,true] [] [] ?_
    refine cd (qmc) ?_
    refine dC [25] [false,true,true,true,true,true] [] [] ?_
    refine cd (qkc) ?_
    refine dB [([25],[false,true,true,true,true,true,true],[])] 0 8 ?_
    refine dD ?_
    refine oNw 2 ?_
    refine WOps.endK ?_
    refine hK4 _ ?_
    clear hK4 K4
    refine rEw ?_
    refine ⟨d+1,lf0,v0,v0⟩
   ·
    try simp at hc2
    replace F:=F.add hc2
    refine W.exit ?_
    refine hK2 _ ?_
    clear hK3 K3 hK2 K2
    have hol2:(rerrK K b s d).length=d:=rerrK_len K b s d
    replace F:=F.add hol2
    refine rK [4,5] ?_
    refine W.ret ?_
    refine er true [9000] [] ?_
    obtain ⟨e1,e2⟩:=rerrL_ok (s:=s) hk qK (show d=dd b by unfold dd;omega)
    rw [e1,e2];exact ⟨rfl,rfl⟩
 ·
  replace F:=F.add hk
  refine rK [1,2,6,18] ?_
  refine cT ?_
  refine rK [4,5] ?_
  refine W.ret ?_
  refine tr ?_
  clear hK1 K1
  refine er true [] [] ?_
  refine ⟨?_,rfl⟩
  have e:rknE b=9:=by rw [rknE,if_neg hk]
  rw [rerrL0,e,if_neg (by decide)];rfl
end Go.Sim
