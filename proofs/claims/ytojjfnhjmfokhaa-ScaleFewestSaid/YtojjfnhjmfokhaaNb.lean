/- Seals: the law's own search for the best plan. -/
import Derived.Test.YtojjfnhjmfokhaaNa
namespace Go.Sim
set_option maxHeartbeats 4000000
open Go.Proofs
set_option maxRecDepth 100000
set_option linter.unusedSimpArgs false
set_option linter.unusedVariables false
attribute [-simp] List.map_set List.map_take List.map_drop
attribute [simp] spn_eta T2_def T2_isData
structure PsOk (s:Sls) (ps:List Nat):Prop where
  srt:ps.Pairwise (· < ·)
  top:∀p∈ps,p<topN s
theorem PsOk.ext {s:Sls}{ps:List Nat}(h:PsOk s ps):Ext 0 (topN s) ps.length ps:=⟨h.srt,fun q m=>⟨Nat.zero_le _,h.top q m⟩,rfl⟩
theorem topN_le {s:Sls}(hv:ValidS s):topN s≤44:=by
  have h1:=hv.days
  have h2:=hv.l4
  exact Nat.mul_le_mul (show (s.days+1).toNat≤11 by omega) h2
theorem PsOk.len {s:Sls}(hv:ValidS s){ps:List Nat}(h:PsOk s ps):ps.length≤44:=by
  have:=ext_len h.ext (Nat.zero_le _)
  have:=topN_le hv
  omega
theorem PsOk.day {s:Sls}(hv:ValidS s){ps:List Nat}(h:PsOk s ps):∀t∈ps.map (tstAt s.lef.length),0≤t.day∧t.day≤10:=fun t m=>by
  have:=((ext_asc hv.l1 hv.days.1 h.ext).dom t m).1
  have:=hv.days
  omega
theorem loN_le {ps:List Nat}{t:Nat}(h:∀p∈ps,p<t):loN ps≤t:=by
  unfold loN
  cases e:ps.getLast? with
  | none=>exact Nat.zero_le _
  | some p=>exact h p (List.mem_of_getLast? e)
theorem lo_all {ps:List Nat}(h:ps.Pairwise (· < ·)):∀p∈ps,p<loN ps:=by
  intro p m
  by_cases e:ps=[]
  · rw [e] at m;cases m
  · obtain ⟨l,q,e2⟩:∃l q,ps=l++[q]:=⟨ps.dropLast,ps.getLast e,(List.dropLast_concat_getLast _).symm⟩
    subst e2
    rw [loN_snoc]
    rcases List.mem_append.1 m with m | m
    · have:=(List.pairwise_append.1 h).2.2 p m q (by simp);omega
    · have:p=q:=by simpa using m
      omega
theorem PsOk.snoc {s:Sls}{ps:List Nat}(h:PsOk s ps){p:Nat}(h1:loN ps≤p) (h2:p<topN s):PsOk s (ps++[p]):=by
  refine ⟨List.pairwise_append.2 ⟨h.srt,List.pairwise_singleton _ _,fun a ha b hb=>?_⟩,fun q m=>?_⟩
  · have:=lo_all h.srt a ha
    have:b=p:=by simpa using hb
    omega
  · rcases List.mem_append.1 m with m | m
    · exact h.top q m
    · have:q=p:=by simpa using m
      omega
theorem lo_last {s:Sls}{ps:List Nat}{l:List Tst}(ql:l=ps.map (tstAt s.lef.length)){n:Nat}(hn:l.length=n+1):∃p,p∈ps∧l[n]?=some (tstAt s.lef.length p)∧loN ps=p+1:=by
  by_cases e:ps=[]
  · rw [ql,e] at hn;simp at hn
  · obtain ⟨k,q,e2⟩:∃l q,ps=l++[q]:=⟨ps.dropLast,ps.getLast e,(List.dropLast_concat_getLast _).symm⟩
    subst e2
    refine ⟨q,by simp, ?_,loN_snoc _ _⟩
    have:k.length=n:=by rw [ql] at hn;simpa using hn
    rw [ql,←this];simp
theorem goDn_stop {f:Nat→Pln}{lo n:Nat}(h:n≤lo):goDn f lo n=([],false):=by
  cases n with
  | zero=>rfl
  | succ n=>rw [goDn,if_pos (by omega)]
theorem goDn_hit {f:Nat→Pln}{lo n:Nat}(h:lo≤n) (hf:(f n).2=true):goDn f lo (n+1)=((f n).1,true):=by
  rw [goDn,if_neg (by omega),if_pos hf]
theorem goDn_miss {f:Nat→Pln}{lo n:Nat}(h:lo≤n) (hf:¬(f n).2=true):goDn f lo (n+1)=goDn f lo n:=by
  rw [goDn,if_neg (by omega),if_neg hf]
abbrev plnT (p:Pln):AV:=.tup [tstV p.1,B p.2]
theorem better_zero (s:Sls) (hv:ValidS s) (l:List Tst) (hll:l.length≤100) (hdm:∀t∈l,0≤t.day∧t.day≤10):ACalls Try.prog 36 [slsV s,tstV l,I 0] [] (fun r o=>r=plnT (l,keptB s l)∧o=[]):=by
 have F:=Fx.nil
 replace F:=F.add hll
 refine ent Try.func36 Try.ntmps36 Try.results36 ?_
 refine rK [1,2,3] ?_
 refine W.seqk fun K1 hK1=>?_
 refine rK [1,2,3,13] ?_
 refine cT ?_
 refine W.seqR ?_
 refine oN 3 ?_
 refine oC [] ?_
 refine ct (sealed_ok s hv l hll hdm) ?_
 refine oN 2 ?_
 refine oK [6,7] ?_
 refine W.ret ?_
 refine tr ?_
 clear hK1 K1
 exact er0 false [] []
theorem better_step (s:Sls) (hv:ValidS s) (ps:List Nat) (hp:PsOk s ps) (l:List Tst) (ql:l=ps.map (tstAt s.lef.length)) (m:Nat) (hmm:m≤100) (ih:∀p,loN ps≤p→p<topN s→ACalls Try.prog 36 [slsV s,tstV (l++[tstAt s.lef.length p]),I m] [] (fun r o=>r=plnT (betP s m (ps++[p]))∧o=[])):ACalls Try.prog 36 [slsV s,tstV l,I ((m:Int)+1)] [] (fun r o=>r=plnT (betP s (m+1) ps)∧o=[]):=by
 have F:=Fx.nil
 replace F:=F.add hmm
 refine ent Try.func36 Try.ntmps36 Try.results36 ?_
 have hd0:0≤s.days:=hv.days.1
 have hd10:s.days≤10:=hv.days.2
 have hl4:s.lef.length≤4:=hv.l4
 have hl1:1≤s.lef.length:=hv.l1
 have hll:l.length≤44:=by rw [ql,List.length_map];exact hp.len hv
 have hm1:((m:Int)+1==0)=false:=by simp;omega
 have hm2:¬((m:Int)+1=0):=by omega
 obtain ⟨lo,qlo⟩:∃lo,loN ps=lo:=⟨_,rfl⟩
 obtain ⟨T,qT⟩:∃T,topN s=T:=⟨_,rfl⟩
 have hT44:T≤44:=by rw [←qT];exact topN_le hv
 have hloT:lo≤T:=by rw [←qlo,←qT];exact loN_le hp.top
 have hTm:mulI .i64 (s.days+1) (s.lef.length:Int)=(T:Int):=by
   have e:(s.days+1) * (s.lef.length:Int)=(T:Int):=by
     rw [←qT];unfold topN
     rw [Int.natCast_mul,show (((s.days+1).toNat:Nat):Int)=s.days+1 by omega]
   rw [mulI_eq,e,wrap_i64 (by omega) (by omega)]
 obtain ⟨f,qf⟩:∃f,f=fun n=>betP s m (ps++[n]):=⟨_,rfl⟩
 have qb:betP s (m+1) ps=goDn f lo T:=by rw [betP,qf,qlo,qT]
 replace F:=F.add hd0 |>.add hd10 |>.add hl4 |>.add hl1 |>.add hll |>.add hm1 |>.add hm2 |>.add hT44 |>.add hloT |>.add hTm
 refine rK [1,2,3] ?_
 refine W.seqk fun K1 hK1=>?_
 refine rK [1,2,3,13] ?_
 refine cF ?_
 refine W.skip ?_
 refine hK1 _ ?_
 clear hK1 K1
 refine rK [1,2,3,8] ?_
 refine W.seqk fun K2 hK2=>?_
 by_cases hne:0<l.length
 ·
  replace F:=F.add hne
  obtain ⟨n1,hn1⟩:∃n1,l.length=n1+1:=⟨l.length-1,by omega⟩
  have hnl:l.length=n1+1:=hn1
  have hnlt:(n1:Int)<(n1:Int)+1:=by omega
  obtain ⟨p,qp1,qp2,qp3⟩:=lo_last ql hn1
  obtain ⟨a0,qa0⟩:∃a,p / s.lef.length=a:=⟨_,rfl⟩
  obtain ⟨b0,qb0⟩:∃a,p % s.lef.length=a:=⟨_,rfl⟩
  have hgl:l[n1]?=some ⟨(a0:Int),(b0:Int)⟩:=by rw [qp2,←qa0,←qb0];rfl
  have hgl2:l[n1]'(by omega)=⟨(a0:Int),(b0:Int)⟩:=by have:=List.getElem?_eq_some_iff.1 hgl;exact this.2
  obtain ⟨c0,qc0⟩:∃c,a0 * s.lef.length=c:=⟨_,rfl⟩
  have qdm:=Nat.div_add_mod p s.lef.length
  have hcb:c0+b0=p:=by rw [←qc0,←qa0,←qb0,Nat.mul_comm];exact qdm
  have hpl:p+1=lo:=by rw [←qlo,qp3]
  have hmu:mulI .i64 (a0:Int) (s.lef.length:Int)=(c0:Int):=by
    rw [mulI_eq,←Int.natCast_mul,qc0,wrap_i64 (by omega) (by omega)]
  replace F:=F.add hnl |>.add hnlt |>.add hgl |>.add hgl2 |>.add hcb |>.add hpl |>.add hmu
  refine rK [1,2,3,8,20] ?_
  refine cT ?_
  refine wDe 18 [] [[],[],[1],[1,2],[2,1,3,0],[0,3,1,2,4],[4,2,1,3,0,5],[],[7],[7,8],[8,7,9,5,0,3,1,2,4,6],[],[],[12],[12,13],[13,12,14,11],[11,14,12,13,15],[15,13,12,14,11,16],[16,11,14,12,13,15,17,6,4,2,1,3,0,5,9,7,8,10],[10,8,7,9,5,0,3,1,2,4,6,17,15,13,12,14,11,16,18],[18,16,11,14,12,13,15,17,6,4,2,1,3,0,5,9,7,8,10,19]] ?_
  refine dBw [([22,23,24,28,29,30,32,33,34,35,36,37,38],[],[]),([21,28,29,30,32,33,34,35,36,37,38],[false],[]),([21,28,29,30,32,33,34,35,36,37,38],[false,true],[]),([21,28,29,30,32,33,34,35,36,37,38],[false,true,true],[]),([28,29,30,32,33,34,35,36,37,38],[true,true,true,true],[]),([28,29,30,32,33,34,35,36,37,38],[true,true,true,true,true],[]),([28,29,30,32,33,34,35,36,37,38],[true,true,true,true,true,true],[]),([21,22,23,24,25,26,27,32,33,34,35,36,37,38],[false,false,false,false,false,false,false],[]),([21,22,23,24,25,26,27,32,33,34,35,36,37,38],[false,false,false,false,false,false,false,true],[]),([21,22,23,24,25,26,27,32,33,34,35,36,37,38],[false,false,false,false,false,false,false,true,true],[]),([32,33,34,35,36,37,38],[true,true,true,true,true,true,true,true,true,true],[]),([21,22,23,24,25,26,27,28,29,30,31,33,34,35],[false,false,false,false,false,false,false,false,false,false,false],[]),([21,22,23,24,25,26,27,28,29,30,31,32],[false,false,false,false,false,false,false,false,false,false,false,false],[]),([21,22,23,24,25,26,27,28,29,30,31,32],[false,false,false,false,false,false,false,false,false,false,false,false,true],[]),([21,22,23,24,25,26,27,28,29,30,31,32],[false,false,false,false,false,false,false,false,false,false,false,false,true,true],[]),([21,22,23,24,25,26,27,28,29,30,31],[false,false,false,false,false,false,false,false,false,false,false,true,true,true,true],[]),([21,22,23,24,25,26,27,28,29,30,31],[false,false,false,false,false,false,false,false,false,false,false,true,true,true,true,true],[]),([21,22,23,24,25,26,27,28,29,30,31],[false,false,false,false,false,false,false,false,false,false,false,true,true,true,true,true,true],[])] 0 18 ?_
  refine dD ?_
  refine oNw 3 ?_
  refine WOps.endK ?_
  refine hK2 _ ?_
  clear hK2 K2
  refine W.seqk fun K3 hK3=>?_
  refine rKw [1,2,3,8,9] ?_
  refine W.block ?_
  refine lpa (α:=Nat) [1,2,3] [56,58,62,67,70,71,74] [] (fun n=>[(9,I ((n:Int)-1)),(8,I lo)]) (fun n=>[]) (fun n=>n≤T∧betP s (m+1) ps=goDn f lo n) (fun n=>n) T v0 ?_
  ·
   intro n hI0
   simp only [List.cons_append,List.nil_append]
   try dsimp only at hI0
   obtain ⟨hn,kb⟩:=hI0
   replace F:=F.add hn
   refine W.seqk fun K4 hK4=>?_
   refine rK [1,2,3,8,9,51] ?_
   refine it (fun hc3=>?_) (fun hc3=>?_)
   ·
    try simp at hc3
    replace F:=F.add hc3
    refine W.skip ?_
    refine hK4 _ ?_
    clear hK4 K4
    refine W.seqk fun K5 hK5=>?_
    refine W.block ?_
    obtain ⟨k,rfl⟩:∃k,n=k+1:=⟨n-1,by omega⟩
    have hkT:k<T:=by omega
    have hlk:lo≤k:=by omega
    obtain ⟨a1,qa1⟩:∃a,k / s.lef.length=a:=⟨_,rfl⟩
    obtain ⟨b1,qb1⟩:∃a,k % s.lef.length=a:=⟨_,rfl⟩
    have hab:a1≤k:=by rw [←qa1];exact Nat.div_le_self _ _
    have htd:Int.tdiv (k:Int) (s.lef.length:Int)=(a1:Int):=by rw [←qa1];rfl
    have htm:Int.tmod (k:Int) (s.lef.length:Int)=(b1:Int):=by rw [←qb1];rfl
    have hlne:¬s.lef=[]:=fun e=>by rw [e] at hl1;simp at hl1
    obtain ⟨P,qP⟩:∃P,f k=P:=⟨_,rfl⟩
    have ih1:=ih k (by omega) (by omega)
    rw [show tstAt s.lef.length k=⟨(a1:Int),(b1:Int)⟩ by unfold tstAt;rw [qa1,qb1],show betP s m (ps++[k])=P by rw [←qP,qf]] at ih1
    rw [show tstV (l++[(⟨(a1:Int),(b1:Int)⟩:Tst)]) = .imm (l.map T2++[.agg [I a1,I b1]]) by show AV.imm _=_;rw [List.map_append];rfl] at ih1
    replace F:=F.add hkT |>.add hlk |>.add hab |>.add htd |>.add htm |>.add hlne
    refine wD 24 [(3,[448]),(16,[464])] [[],[],[],[2,1],[],[],[5],[5,6],[6,5,7,4],[],[],[10],[10,11],[11,10,12,9],[9,12,10,11,13,4,7,5,6,8],[8,6,5,7,4,13,11,10,12,9,14],[14,9,12,10,11,13,4,7,5,6,8,15,1,2,3],[],[17],[17,18,3,2,1,15,8,6,5,7,4,13,11,10,12,9,14,16,0],[0,16,14,9,12,10,11,13,4,7,5,6,8,15,1,2,3,18,17,19],[19,17,18,3,2,1,15,8,6,5,7,4,13,11,10,12,9,14,16,0,20],[19,17,18,3,2,1,15,8,6,5,7,4,13,11,10,12,9,14,16,0,20],[20,0,16,14,9,12,10,11,13,4,7,5,6,8,15,1,2,3,18,17,19,21],[21,23,20,0,16,14,9,12,10,11,13,4,7,5,6,8,15,1,2,3,18,17,19,22]] ?_
    refine dB [([56,57,58,59,60,61,62,63,64,65,66,67,68,69,70,71,72,73],[],[448,464]),([55,57,59,60,61,62,63,64,65,66,67,68,69,70,72,73],[false],[]),([55,56,59,60,61,62,63,64,65,66,67,68,69,70,72,73],[false,false],[])] 21 3 ?_
    refine dAw [55,59,60,61,62,63,64,65,66,67,68,69,70,72,73] [false,true,true] [] [448] ?_
    refine dBw [([55,56,57,58,60,61,62,64,65,66,67,68,72,73],[false,false,false,false],[448]),([55,56,57,58,59,64,65,66,67,68,72,73],[false,false,false,false,false],[448]),([55,56,57,58,59,64,65,66,67,68,72,73],[false,false,false,false,false,true],[448]),([55,56,57,58,59,64,65,66,67,68,72,73],[false,false,false,false,false,true,true],[448]),([55,56,57,58,64,65,66,67,68,72,73],[false,false,false,false,true,true,true,true],[448]),([55,56,57,58,59,60,61,62,63,65,66,67,72,73],[false,false,false,false,false,false,false,false,false],[448]),([55,56,57,58,59,60,61,62,63,64,72,73],[false,false,false,false,false,false,false,false,false,false],[448]),([55,56,57,58,59,60,61,62,63,64,72,73],[false,false,false,false,false,false,false,false,false,false,true],[448]),([55,56,57,58,59,60,61,62,63,64,72,73],[false,false,false,false,false,false,false,false,false,false,true,true],[448]),([55,56,57,58,59,60,61,62,63,72,73],[false,false,false,false,false,false,false,false,false,true,true,true,true],[448]),([55,56,57,58,72,73],[false,false,false,false,true,true,true,true,true,true,true,true,true,true],[448]),([55,56,57,58,72,73],[false,false,false,false,true,true,true,true,true,true,true,true,true,true,true],[448])] 8 16 ?_
    refine WDraw.appI hΓ [464] (viewB_eq (L:=[55,72,73]) (S:=[false,true,true,true,true,true,true,true,true,true,true,true,true,true,true,true]) (O:=[]) (by kernel_rfl) (by kernel_rfl) (by simp [hmm,hd0,hd10,hl4,hl1,hll,hm1,hm2,hT44,hloT,hTm,hne,hnl,hnlt,hgl,hgl2,hcb,hpl,hmu,hn,hc3,hkT,hlk,hab,htd,htm,hlne];rfl)) (by first | rfl | simp) (by simp [hmm,hd0,hd10,hl4,hl1,hll,hm1,hm2,hT44,hloT,hTm,hne,hnl,hnlt,hgl,hgl2,hcb,hpl,hmu,hn,hc3,hkT,hlk,hab,htd,htm,hlne];(try (simp (disch:=omega) only [wrap_i64,mul_i64,capOk_of];(try simp [hmm,hd0,hd10,hl4,hl1,hll,hm1,hm2,hT44,hloT,hTm,hne,hnl,hnlt,hgl,hgl2,hcb,hpl,hmu,hn,hc3,hkT,hlk,hab,htd,htm,hlne])));first | rfl | exact ⟨rfl,rfl⟩) (by simp [hmm,hd0,hd10,hl4,hl1,hll,hm1,hm2,hT44,hloT,hTm,hne,hnl,hnlt,hgl,hgl2,hcb,hpl,hmu,hn,hc3,hkT,hlk,hab,htd,htm,hlne,imD];first | rfl | exact ⟨rfl,rfl⟩) (by first | rfl | simp) (by simp [hmm,hd0,hd10,hl4,hl1,hll,hm1,hm2,hT44,hloT,hTm,hne,hnl,hnlt,hgl,hgl2,hcb,hpl,hmu,hn,hc3,hkT,hlk,hab,htd,htm,hlne];first | done | rfl) (.inr (by simp)) (by simp [hmm,hd0,hd10,hl4,hl1,hll,hm1,hm2,hT44,hloT,hTm,hne,hnl,hnlt,hgl,hgl2,hcb,hpl,hmu,hn,hc3,hkT,hlk,hab,htd,htm,hlne];rfl) ?_
    refine dBw [([55,56,57,58,59,60,61,62,63,64,65,66,67,68,69,70,71],[false,false,false,false,false,false,false,false,false,false,false,false,false,false,false,false,false],[448,464]),([55,56,57,58,59,60,61,62,63,64,65,66,67,68,69,70,71],[false,false,false,false,false,false,false,false,false,false,false,false,false,false,false,false,false,true],[448,464])] 5 19 ?_
    refine dC [] [true,true,true,true,true,true,true,true,true,true,true,true,true,true,true,true,true,true,true] [] [] ?_
    refine cd (ih1) ?_
    refine dB [([],[true,true,true,true,true,true,true,true,true,true,true,true,true,true,true,true,true,true,true,true],[]),([76],[true,true,true,true,true,true,true,true,true,true,true,true,true,true,true,true,true,true,true,true,true],[]),([75,10],[true,true,true,true,true,true,true,true,true,true,true,true,true,true,true,true,true,true,true,true,true,false],[]),([76],[true,true,true,true,true,true,true,true,true,true,true,true,true,true,true,true,true,true,true,true,true,true,false],[])] 0 24 ?_
    refine dD ?_
    refine oN 1 ?_
    refine oK [1,2,3,8,9,10,11] ?_
    by_cases hP:P.2=true
    ·
     replace F:=F.add hP
     have qres:betP s (m+1) ps=(P.1,true):=by rw [kb,goDn_hit hlk (by rw [qP];exact hP),qP]
     refine rK [1,2,3,8,9,10,77] ?_
     refine cT ?_
     refine rK [6,7] ?_
     refine W.ret ?_
     refine br (tr (tr (br (tr ?_))))
     clear hK5 K5 hK3 K3
     refine er true [] [] ?_
     first
     | (rw [qres];exact ⟨rfl,rfl⟩)
     | (rw [kb,goDn_stop (by omega)];exact ⟨rfl,rfl⟩)
    ·
     replace F:=F.add hP
     have qmis:betP s (m+1) ps=goDn f lo k:=by rw [kb,goDn_miss hlk (by rw [qP];exact hP)]
     refine rK [1,2,3,8,9,10,77] ?_
     refine cF ?_
     refine W.skip ?_
     refine hK5 _ ?_
     clear hK5 K5
     refine rEw ?_
     refine ⟨k,lf0, ?_,v0⟩
     ·
      exact ⟨by omega,qmis⟩
   ·
    try simp at hc3
    replace F:=F.add hc3
    refine W.exit ?_
    refine hK3 _ ?_
    clear hK4 K4 hK3 K3
    refine rK [6,7] ?_
    refine W.ret ?_
    refine er true [] [] ?_
    first
    | (rw [qres];exact ⟨rfl,rfl⟩)
    | (rw [kb,goDn_stop (by omega)];exact ⟨rfl,rfl⟩)
 ·
  replace F:=F.add hne
  have ql0:l=[]:=List.length_eq_zero_iff.1 (by omega)
  have hlo0 : lo = 0 := by rw [← qlo]; have : ps = [] := by rw [ql0] at ql; exact List.map_eq_nil_iff.1 ql.symm
                           rw [this];rfl
  replace F:=F.add hlo0
  refine rK [1,2,3,8,20] ?_
  refine cF ?_
  refine W.skip ?_
  refine hK2 _ ?_
  clear hK2 K2
  refine W.seqk fun K6 hK6=>?_
  refine rKw [1,2,3,8,9] ?_
  refine W.block ?_
  refine lpa (α:=Nat) [1,2,3] [56,58,62,67,70,71,74] [] (fun n=>[(9,I ((n:Int)-1)),(8,I lo)]) (fun n=>[]) (fun n=>n≤T∧betP s (m+1) ps=goDn f lo n) (fun n=>n) T v0 ?_
  ·
   intro n hI0
   simp only [List.cons_append,List.nil_append]
   try dsimp only at hI0
   obtain ⟨hn,kb⟩:=hI0
   replace F:=F.add hn
   refine W.seqk fun K7 hK7=>?_
   refine rK [1,2,3,8,9,51] ?_
   refine it (fun hc7=>?_) (fun hc7=>?_)
   ·
    try simp at hc7
    replace F:=F.add hc7
    refine W.skip ?_
    refine hK7 _ ?_
    clear hK7 K7
    refine W.seqk fun K8 hK8=>?_
    refine W.block ?_
    obtain ⟨k,rfl⟩:∃k,n=k+1:=⟨n-1,by omega⟩
    have hkT:k<T:=by omega
    have hlk:lo≤k:=by omega
    obtain ⟨a1,qa1⟩:∃a,k / s.lef.length=a:=⟨_,rfl⟩
    obtain ⟨b1,qb1⟩:∃a,k % s.lef.length=a:=⟨_,rfl⟩
    have hab:a1≤k:=by rw [←qa1];exact Nat.div_le_self _ _
    have htd:Int.tdiv (k:Int) (s.lef.length:Int)=(a1:Int):=by rw [←qa1];rfl
    have htm:Int.tmod (k:Int) (s.lef.length:Int)=(b1:Int):=by rw [←qb1];rfl
    have hlne:¬s.lef=[]:=fun e=>by rw [e] at hl1;simp at hl1
    obtain ⟨P,qP⟩:∃P,f k=P:=⟨_,rfl⟩
    have ih1:=ih k (by omega) (by omega)
    rw [show tstAt s.lef.length k=⟨(a1:Int),(b1:Int)⟩ by unfold tstAt;rw [qa1,qb1],show betP s m (ps++[k])=P by rw [←qP,qf]] at ih1
    rw [show tstV (l++[(⟨(a1:Int),(b1:Int)⟩:Tst)]) = .imm (l.map T2++[.agg [I a1,I b1]]) by show AV.imm _=_;rw [List.map_append];rfl] at ih1
    replace F:=F.add hkT |>.add hlk |>.add hab |>.add htd |>.add htm |>.add hlne
    refine wD 24 [(3,[448]),(16,[464])] [[],[],[],[2,1],[],[],[5],[5,6],[6,5,7,4],[],[],[10],[10,11],[11,10,12,9],[9,12,10,11,13,4,7,5,6,8],[8,6,5,7,4,13,11,10,12,9,14],[14,9,12,10,11,13,4,7,5,6,8,15,1,2,3],[],[17],[17,18,3,2,1,15,8,6,5,7,4,13,11,10,12,9,14,16,0],[0,16,14,9,12,10,11,13,4,7,5,6,8,15,1,2,3,18,17,19],[19,17,18,3,2,1,15,8,6,5,7,4,13,11,10,12,9,14,16,0,20],[19,17,18,3,2,1,15,8,6,5,7,4,13,11,10,12,9,14,16,0,20],[20,0,16,14,9,12,10,11,13,4,7,5,6,8,15,1,2,3,18,17,19,21],[21,23,20,0,16,14,9,12,10,11,13,4,7,5,6,8,15,1,2,3,18,17,19,22]] ?_
    refine dB [([56,57,58,59,60,61,62,63,64,65,66,67,68,69,70,71,72,73],[],[448,464]),([55,57,59,60,61,62,63,64,65,66,67,68,69,70,72,73],[false],[]),([55,56,59,60,61,62,63,64,65,66,67,68,69,70,72,73],[false,false],[])] 21 3 ?_
    refine dAw [55,59,60,61,62,63,64,65,66,67,68,69,70,72,73] [false,true,true] [] [448] ?_
    refine dBw [([55,56,57,58,60,61,62,64,65,66,67,68,72,73],[false,false,false,false],[448]),([55,56,57,58,59,64,65,66,67,68,72,73],[false,false,false,false,false],[448]),([55,56,57,58,59,64,65,66,67,68,72,73],[false,false,false,false,false,true],[448]),([55,56,57,58,59,64,65,66,67,68,72,73],[false,false,false,false,false,true,true],[448]),([55,56,57,58,64,65,66,67,68,72,73],[false,false,false,false,true,true,true,true],[448]),([55,56,57,58,59,60,61,62,63,65,66,67,72,73],[false,false,false,false,false,false,false,false,false],[448]),([55,56,57,58,59,60,61,62,63,64,72,73],[false,false,false,false,false,false,false,false,false,false],[448]),([55,56,57,58,59,60,61,62,63,64,72,73],[false,false,false,false,false,false,false,false,false,false,true],[448]),([55,56,57,58,59,60,61,62,63,64,72,73],[false,false,false,false,false,false,false,false,false,false,true,true],[448]),([55,56,57,58,59,60,61,62,63,72,73],[false,false,false,false,false,false,false,false,false,true,true,true,true],[448]),([55,56,57,58,72,73],[false,false,false,false,true,true,true,true,true,true,true,true,true,true],[448]),([55,56,57,58,72,73],[false,false,false,false,true,true,true,true,true,true,true,true,true,true,true],[448])] 8 16 ?_
    refine WDraw.appI hΓ [464] (viewB_eq (L:=[55,72,73]) (S:=[false,true,true,true,true,true,true,true,true,true,true,true,true,true,true,true]) (O:=[]) (by kernel_rfl) (by kernel_rfl) (by simp [hmm,hd0,hd10,hl4,hl1,hll,hm1,hm2,hT44,hloT,hTm,hne,hlo0,hn,hc7,hkT,hlk,hab,htd,htm,hlne];rfl)) (by first | rfl | simp) (by simp [hmm,hd0,hd10,hl4,hl1,hll,hm1,hm2,hT44,hloT,hTm,hne,hlo0,hn,hc7,hkT,hlk,hab,htd,htm,hlne];(try (simp (disch:=omega) only [wrap_i64,mul_i64,capOk_of];(try simp [hmm,hd0,hd10,hl4,hl1,hll,hm1,hm2,hT44,hloT,hTm,hne,hlo0,hn,hc7,hkT,hlk,hab,htd,htm,hlne])));first | rfl | exact ⟨rfl,rfl⟩) (by simp [hmm,hd0,hd10,hl4,hl1,hll,hm1,hm2,hT44,hloT,hTm,hne,hlo0,hn,hc7,hkT,hlk,hab,htd,htm,hlne,imD];first | rfl | exact ⟨rfl,rfl⟩) (by first | rfl | simp) (by simp [hmm,hd0,hd10,hl4,hl1,hll,hm1,hm2,hT44,hloT,hTm,hne,hlo0,hn,hc7,hkT,hlk,hab,htd,htm,hlne];first | done | rfl) (.inr (by simp)) (by simp [hmm,hd0,hd10,hl4,hl1,hll,hm1,hm2,hT44,hloT,hTm,hne,hlo0,hn,hc7,hkT,hlk,hab,htd,htm,hlne];rfl) ?_
    refine dBw [([55,56,57,58,59,60,61,62,63,64,65,66,67,68,69,70,71],[false,false,false,false,false,false,false,false,false,false,false,false,false,false,false,false,false],[448,464]),([55,56,57,58,59,60,61,62,63,64,65,66,67,68,69,70,71],[false,false,false,false,false,false,false,false,false,false,false,false,false,false,false,false,false,true],[448,464])] 5 19 ?_
    refine dC [] [true,true,true,true,true,true,true,true,true,true,true,true,true,true,true,true,true,true,true] [] [] ?_
    refine cd (ih1) ?_
    refine dB [([],[true,true,true,true,true,true,true,true,true,true,true,true,true,true,true,true,true,true,true,true],[]),([76],[true,true,true,true,true,true,true,true,true,true,true,true,true,true,true,true,true,true,true,true,true],[]),([75,10],[true,true,true,true,true,true,true,true,true,true,true,true,true,true,true,true,true,true,true,true,true,false],[]),([76],[true,true,true,true,true,true,true,true,true,true,true,true,true,true,true,true,true,true,true,true,true,true,false],[])] 0 24 ?_
    refine dD ?_
    refine oN 1 ?_
    refine oK [1,2,3,8,9,10,11] ?_
    by_cases hP:P.2=true
    ·
     replace F:=F.add hP
     have qres:betP s (m+1) ps=(P.1,true):=by rw [kb,goDn_hit hlk (by rw [qP];exact hP),qP]
     refine rK [1,2,3,8,9,10,77] ?_
     refine cT ?_
     refine rK [6,7] ?_
     refine W.ret ?_
     refine br (tr (tr (br (tr ?_))))
     clear hK8 K8 hK6 K6
     refine er true [] [] ?_
     first
     | (rw [qres];exact ⟨rfl,rfl⟩)
     | (rw [kb,goDn_stop (by omega)];exact ⟨rfl,rfl⟩)
    ·
     replace F:=F.add hP
     have qmis:betP s (m+1) ps=goDn f lo k:=by rw [kb,goDn_miss hlk (by rw [qP];exact hP)]
     refine rK [1,2,3,8,9,10,77] ?_
     refine cF ?_
     refine W.skip ?_
     refine hK8 _ ?_
     clear hK8 K8
     refine rEw ?_
     refine ⟨k,lf0, ?_,v0⟩
     ·
      exact ⟨by omega,qmis⟩
   ·
    try simp at hc7
    replace F:=F.add hc7
    refine W.exit ?_
    refine hK6 _ ?_
    clear hK7 K7 hK6 K6
    refine rK [6,7] ?_
    refine W.ret ?_
    refine er true [] [] ?_
    first
    | (rw [qres];exact ⟨rfl,rfl⟩)
    | (rw [kb,goDn_stop (by omega)];exact ⟨rfl,rfl⟩)
end Go.Sim
