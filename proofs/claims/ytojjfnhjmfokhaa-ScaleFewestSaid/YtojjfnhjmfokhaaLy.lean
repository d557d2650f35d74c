/- Seals made of numbers, copies, comparisons. -/
import Derived.Test.YtojjfnhjmfokhaaLo
import Derived.Test.YtojjfnhjmfokhaaQg
namespace Go.Sim
open Go.Proofs
set_option maxRecDepth 100000
set_option linter.unusedSimpArgs false
set_option linter.unusedVariables false
attribute [-simp] List.map_set List.map_take List.map_drop
structure MadeS (s:Sls) (p d:Nat):Prop where
  ok:ValidS s
  lef:s.lef.length≤p
  days:s.days≤d
theorem mem_snocS {P:Int→Prop}{l:List Int}{x:Int}(h:∀y∈l,P y) (hx:P x):∀y∈l++[x],P y:=fun y hy=>by
  rcases List.mem_append.1 hy with k | k
  · exact h y k
  · rw [List.mem_singleton.1 k];exact hx
noncomputable def sealK (g:Int):Nat→List Int×List Int×Int
  | 0=>([],[],g)
  | i+1=>((sealK g i).1++[fromV (sealK g i).2.2 (-1) 3],(sealK g i).2.1++[castV (fromF (sealK g i).2.2 (-1) 3) 5],castF (fromF (sealK g i).2.2 (-1) 3) 5)
theorem sealK_ok (g:Int):∀i,((sealK g i).1.length=i∧(sealK g i).2.1.length=i)∧(∀n∈(sealK g i).1, -1≤n∧n≤10)∧∀n∈(sealK g i).2.1,0≤n∧n≤10
  | 0=>⟨⟨rfl,rfl⟩,fun n h=>(by cases h),fun n h=>(by cases h)⟩
  | i + 1 => by
    obtain ⟨⟨h1,h2⟩,h3,h4⟩:=sealK_ok g i
    have a:=fromV_range (sealK g i).2.2 (lo:=-1) (hi:=3) (by omega)
    have b:=castV_lo (fromF (sealK g i).2.2 (-1) 3) 5
    have c:=castV_le (fromF (sealK g i).2.2 (-1) 3) 5 (by omega)
    refine ⟨⟨?_, ?_⟩,mem_snocS h3 ⟨by omega,by omega⟩,mem_snocS h4 ⟨by omega,by omega⟩⟩
    · show ((sealK g i).1++[_]).length=i+1
      rw [List.length_append,h1];rfl
    · show ((sealK g i).2.1++[_]).length=i+1
      rw [List.length_append,h2];rfl
noncomputable def sd1 (f:Int) (d:Nat):Int:=castF f ((d:Int)+1)
noncomputable def sd2 (f:Int) (d:Nat):Int:=castF (sd1 f d) 3
noncomputable def smV (f:Int) (d:Nat):Int:=oneV (sd2 f d) [1,1,castV (sd1 f d) 3]
noncomputable def sd3 (f:Int) (d:Nat):Int:=oneF (sd2 f d) [1,1,castV (sd1 f d) 3]
noncomputable def snV (f:Int) (p d:Nat):Nat:=(fromV (sd3 f d) 1 p).toNat
noncomputable def sd4 (f:Int) (p d:Nat):Int:=fromF (sd3 f d) 1 p
noncomputable def sealV (f:Int) (p d:Nat):Sls:=⟨(sealK (sd4 f p d) (snV f p d)).1,(sealK (sd4 f p d) (snV f p d)).2.1,smV f d,castV f ((d:Int)+1)⟩
noncomputable def sealF (f:Int) (p d:Nat):Int:=(sealK (sd4 f p d) (snV f p d)).2.2
theorem sealV_made (f:Int){p d:Nat}(hp:1≤p∧p≤4) (hd:d≤10):MadeS (sealV f p d) p d:=by
  have h1:=fromV_range (sd3 f d) (lo:=1) (hi:=p) (by omega)
  obtain ⟨⟨k1,k2⟩,k3,k4⟩:=sealK_ok (sd4 f p d) (snV f p d)
  have hn:1≤snV f p d∧snV f p d≤p:=by unfold snV;omega
  have h2:=castV_lo f ((d:Int)+1)
  have h3:=castV_le f ((d:Int)+1) (by omega)
  have h4:=castV_lo (sd1 f d) 3
  have h5:=castV_le (sd1 f d) 3 (by omega)
  have h6:smV f d=1∨smV f d=castV (sd1 f d) 3:=by
    have:=oneV_mem (sd2 f d) [1,1,castV (sd1 f d) 3] (by simp)
    simpa [smV] using this
  exact ⟨⟨by show 1≤(sealK (sd4 f p d) (snV f p d)).1.length;omega,by show (sealK (sd4 f p d) (snV f p d)).1.length≤4;omega,k2.trans k1.symm,by show 0≤castV f ((d:Int)+1)∧castV f ((d:Int)+1)≤10;omega,by show 0≤smV f d∧smV f d≤4;omega,k3,k4⟩,by show (sealK (sd4 f p d) (snV f p d)).1.length≤p;omega,by show castV f ((d:Int)+1)≤d;omega⟩
set_option maxHeartbeats 4000000 in
theorem SealsOf_ok (f0:Int) (p d:Nat) (hp:1≤p∧p≤4) (hd:d≤10):ACalls Try.prog 28 [.ptr 10000 0 0,I p,I d] [(10000,die f0)] (fun z o=>z=slsV (sealV f0 p d)∧o=[(10000,die (sealF f0 p d))]):=by
 have F:=Fx.nil
 replace F:=F.add hd
 refine ent Try.func28 Try.ntmps28 Try.results28 ?_
 have hp1:=hp.1
 have hp4:=hp.2
 obtain ⟨dv,qdv⟩:∃x,castV f0 ((d:Int)+1)=x:=⟨_,rfl⟩
 have hdv:=qdv
 obtain ⟨x1,qx1⟩:∃x,castF f0 ((d:Int)+1)=x:=⟨_,rfl⟩
 have hx1:=qx1
 obtain ⟨cv,qcv⟩:∃x,castV x1 3=x:=⟨_,rfl⟩
 have hcv:=qcv
 obtain ⟨x2,qx2⟩:∃x,castF x1 3=x:=⟨_,rfl⟩
 have hx2:=qx2
 obtain ⟨mo,qmo⟩:∃x,oneV x2 [1,1,cv]=x:=⟨_,rfl⟩
 have hmo:=qmo
 obtain ⟨x3,qx3⟩:∃x,oneF x2 [1,1,cv]=x:=⟨_,rfl⟩
 have hx3:=qx3
 have qfr:=fromV_range x3 (lo:=1) (hi:=p) (by omega)
 obtain ⟨m,qm⟩:∃m:Nat,fromV x3 1 p=m:=⟨(fromV x3 1 p).toNat,by omega⟩
 have hmq:=qm
 have hmp:m≤4:=by omega
 obtain ⟨x4,qx4⟩:∃x,fromF x3 1 p=x:=⟨_,rfl⟩
 have hx4:=qx4
 have e4:sd4 f0 p d=x4:=by unfold sd4 sd3 sd2 sd1;rw [qx1,qcv,qx2,qx3,qx4]
 have en:snV f0 p d=m:=by unfold snV sd3 sd2 sd1;rw [qx1,qcv,qx2,qx3,qm];rfl
 have em:smV f0 d=mo:=by unfold smV sd2 sd1;rw [qx1,qcv,qx2,qmo]
 obtain ⟨U,qU⟩:∃U:Nat→List Int,U=fun i=>(sealK x4 i).1:=⟨_,rfl⟩
 obtain ⟨V,qV⟩:∃V:Nat→List Int,V=fun i=>(sealK x4 i).2.1:=⟨_,rfl⟩
 obtain ⟨G,qG⟩:∃G:Nat→Int,G=fun i=>(sealK x4 i).2.2:=⟨_,rfl⟩
 have hU0:U 0=[]:=by rw [qU];rfl
 have hV0:V 0=[]:=by rw [qV];rfl
 have hG0:G 0=x4:=by rw [qG];rfl
 have hUl:∀i,(U i).length=i:=fun i=>by rw [qU];exact (sealK_ok x4 i).1.1
 have hVl:∀i,(V i).length=i:=fun i=>by rw [qV];exact (sealK_ok x4 i).1.2
 replace F:=F.add hp1 |>.add hp4 |>.add hdv |>.add hx1 |>.add hcv |>.add hx2 |>.add hmo |>.add hx3 |>.add hmq |>.add hmp |>.add hx4 |>.add hU0 |>.add hV0 |>.add hG0 |>.add hUl |>.add hVl
 refine rK [0,1,2,6] ?_
 refine W.seqR ?_
 refine oNw 3 ?_
 refine oC [(10000,10000)] ?_
 refine ct (Cast_ok f0 ((d:Int)+1) (by omega)) ?_
 refine oN 2 ?_
 refine oC [(10000,10000)] ?_
 refine ct (Cast_ok x1 3 (by omega)) ?_
 refine oN 1 ?_
 refine oC [(10000,10000)] ?_
 refine ct (One_ok x2 [1,1,cv] (by simp)) ?_
 refine oN 3 ?_
 refine oK [0,1,6,7] ?_
 refine W.seqk fun K1 hK1=>?_
 refine W.seqR ?_
 refine oN 2 ?_
 refine oC [(10000,10000)] ?_
 refine ct (From_ok x3 1 p (by omega) (by omega) (by omega) (by omega)) ?_
 refine oN 1 ?_
 refine oK [0,6,7,8] ?_
 refine W.block ?_
 refine sno 56 0 0 9000 3 1 ?_
 refine sno 56 0 1 9001 3 1 ?_
 refine lpa (α:=Nat) [0,6,7] [29,30,31,35,36,37] [56,9000,9001,10000] (fun i=>[(8,I ((m:Int)-i))]) (fun i=>[(56,.row false 52 4 [.agg [.own 9000 0 i,.own 9001 0 i,I mo,I dv]]),(9000,.row true 3 1 ((U i).map I)),(9001,.row true 3 1 ((V i).map I)),(10000,die (G i))]) (fun i=>i≤m) (fun i=>m-i) 0 v0 ?_
 ·
  intro i hI0
  simp only [List.cons_append,List.nil_append]
  try dsimp only at hI0
  replace F:=F.add hI0
  refine W.seqk fun K2 hK2=>?_
  refine rK [0,6,7,8,23] ?_
  refine it (fun hc1=>?_) (fun hc1=>?_)
  ·
   try simp at hc1
   replace F:=F.add hc1
   refine W.skip ?_
   refine hK2 _ ?_
   clear hK2 K2
   refine W.seqk fun K3 hK3=>?_
   refine W.block ?_
   have himm:i<m:=by omega
   obtain ⟨g,qg⟩:∃g,G i=g:=⟨_,rfl⟩
   have hgi:=qg
   have qg3:(sealK x4 i).2.2=g:=by rw [←qg,qG]
   obtain ⟨a,qa⟩:∃a,fromV g (-1) 3=a:=⟨_,rfl⟩
   have ha:=qa
   obtain ⟨g1,qg1⟩:∃a,fromF g (-1) 3=a:=⟨_,rfl⟩
   have hg1:=qg1
   obtain ⟨c,qc⟩:∃a,castV g1 5=a:=⟨_,rfl⟩
   have hc:=qc
   obtain ⟨g2,qg2⟩:∃a,castF g1 5=a:=⟨_,rfl⟩
   have hg2:=qg2
   have hU1:U (i+1)=U i++[a]:=by rw [qU,←qa,←qg3];rfl
   have hV1:V (i+1)=V i++[c]:=by rw [qV,←qc,←qg1,←qg3];rfl
   have hG1:G (i+1)=g2:=by rw [qG,←qg2,←qg1,←qg3];rfl
   replace F:=F.add himm |>.add hgi |>.add ha |>.add hg1 |>.add hc |>.add hg2 |>.add hU1 |>.add hV1 |>.add hG1
   refine wDe 13 [(3,[10000]),(5,[9000]),(9,[10000]),(11,[9001])] [[],[0],[],[2],[2,3],[3,2,4,0,1],[],[6],[],[1,0,4,2,3,5,8],[8,5,3,2,4,0,1,9],[9,1,0,4,2,3,5,8,10,6,7],[7,6,5,4,3,2,1,0],[10,8,9,11,0,1,2,3,4,5,6,7,12],[13,12,11,10,9,8,7,6,5,4,3,2,1,0],[0,1,2,3,4,5,6,7,8,9,10,11,12,13,14]] ?_
   refine dB [([28,29,30,32,33,34],[],[10000]),([28,29,30,32,33,34],[true],[10000]),([26,27,32,33,34],[false,false],[])] 10 3 ?_
   refine dC [26,27,32,33,34] [false,false,true] [] [(10000,10000)] ?_
   refine cd (From_ok g (-1) 3 (by omega) (by omega) (by omega) (by omega)) ?_
   refine dB [([26,27,32,33,34],[false,false,true,true],[])] 8 5 ?_
   refine dAw [32,33,34] [true,true,true,true,true] [] [9000] ?_
   refine dB [([26,27,28,29,30,31,34,35,36],[false,false,false,false,false,false],[10000,9000,10000]),([26,27,28,29,30,31,34,35,36],[false,false,false,false,false,false,true],[10000,9000,10000]),([26,27,28,29,30,31,32,33,38],[false,false,false,false,false,false,false,false],[10000,9000])] 4 9 ?_
   refine dC [32,33,38] [true,true,true,true,true,true,false,false,true] [] [(10000,10000)] ?_
   refine cd (Cast_ok g1 5 (by omega)) ?_
   refine dB [([32,33,38],[true,true,true,true,true,true,false,false,true,true],[])] 2 11 ?_
   refine dAw [38] [true,true,true,true,true,true,true,true,true,true,true] [] [9001] ?_
   refine dB [([34,35,36,37],[true,true,true,true,true,true,true,true,false,false,false,false],[10000,9001])] 0 13 ?_
   refine dD ?_
   refine WOps.le (Le.exch (x:=248) (y:=9000) (by simp [hd,hp1,hp4,hdv,hx1,hcv,hx2,hmo,hx3,hmq,hmp,hx4,hU0,hV0,hG0,hUl,hVl,hI0,hc1,himm,hgi,ha,hg1,hc,hg2,hU1,hV1,hG1];rfl)) rfl rfl ?_
   refine WOps.le (Le.exch (x:=296) (y:=9001) (by simp [hd,hp1,hp4,hdv,hx1,hcv,hx2,hmo,hx3,hmq,hmp,hx4,hU0,hV0,hG0,hUl,hVl,hI0,hc1,himm,hgi,ha,hg1,hc,hg2,hU1,hV1,hG1];rfl)) rfl rfl ?_
   refine oN 3 ?_
   refine WOps.endK ?_
   refine hK3 _ ?_
   clear hK3 K3
   have him:(m:Int)-i-1=(m:Int)-((i:Int)+1):=by omega
   have hwr:IntKind.i64.wrap ((m:Int)-i-1)=(m:Int)-((i:Int)+1):=by rw [him];exact wrap_i64 (by omega) (by omega)
   replace F:=F.add him |>.add hwr
   refine rEw ?_
   refine ⟨i+1,lf0,v0,v0⟩
  ·
   try simp at hc1
   replace F:=F.add hc1
   refine W.exit ?_
   refine hK1 _ ?_
   clear hK2 K2 hK1 K1
   have hin:i=m:=by omega
   have htk1:List.take m (U m)=U m:=List.take_of_length_le (by rw [hUl];omega)
   have htk2:List.take m (V m)=V m:=List.take_of_length_le (by rw [hVl];omega)
   replace F:=F.add hin |>.add htk1 |>.add htk2
   refine rK [6] ?_
   refine W.ret ?_
   refine er false [9000,9001] [(10000,10000)] ?_
   first
   | exact ⟨by unfold sealV;rw [e4,en,em,qdv,qU,qV],by unfold sealF;rw [e4,en,qG]⟩
end Go.Sim
