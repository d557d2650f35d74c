/- Results in another order, and twice: the law answers true. -/
import Derived.Test.YtojjfnhjmfokhaaLs
import Derived.Test.YtojjfnhjmfokhaaLq
import Derived.Test.YtojjfnhjmfokhaaLn
namespace Go.Sim
open Go.Proofs
set_option maxRecDepth 100000
set_option linter.unusedSimpArgs false
set_option linter.unusedVariables false
attribute [-simp] List.map_set List.map_take List.map_drop
attribute [simp] spn_eta
theorem made_len {b:Ben} {p q r d:Nat} (M:MadeB b p q r d) (hp:p≤20) (hq:q≤20) (hr:r≤20):LenB b:=⟨by have:=M.mas; omega,by have:=M.wei; omega,by have:=M.scl; omega,by have:=M.tri; omega⟩
structure Mix {α:Type} (l m:List α):Prop where
  sub:∀ x∈m,x∈l
theorem mem_snoc2 {α:Type} {P:α→Prop} {l:List α} {x y:α} (h:∀ z∈l,P z) (hx:P x) (hy:P y):∀ z∈l ++ [x,y],P z:=fun z hz=>by
  rcases List.mem_append.1 hz with k | k
  · exact h z k
  · simp only [List.mem_cons,List.not_mem_nil,or_false] at k
    rcases k with rfl | rfl
    · exact hx
    · exact hy
theorem mix_step {α:Type} [NthD α] {m L:List α} {i k p:Nat} {v:Int} {y:α} (h1:k < i→nth L v.toNat∈m) (h2:k < i + 1) (h3:k=i→v=p) (hp:p < L.length):nth L v.toNat∈m ++ [L[p],y]:=by
  by_cases e:k < i
  · exact List.mem_append_left _ (h1 e)
  · rw [h3 (by omega),Int.toNat_natCast,nth_get hp]; simp
set_option maxHeartbeats 4000000 in
theorem ScaleOrder_ok (nums:List Int):ACalls Try.prog 10 [ints nums] [] (fun r o=>r=B true∧o=[]):=by
 have F:=Fx.nil
 refine ent Try.func10 Try.ntmps10 Try.results10 ?_
 refine rK [0] ?_
 refine W.seqR ?_
 refine oN 1 ?_
 refine oC [] ?_
 refine CallT.mk (DieOf_ok nums) (by simp) ?_
 obtain ⟨f,qf⟩:∃ f,nums.foldl dieStep 2611923443488327891=f:=⟨_,rfl⟩
 have hf:=qf
 replace F:=F.add hf
 refine WOps.norm (by simp [hf]; rfl) ?_
 refine oN 1 ?_
 refine oK [3] ?_
 refine W.seqR ?_
 refine oN 1 ?_
 refine oC [(10000,176)] ?_
 refine CallT.mkE (BenchOf_ok f 4 2 3 5 (by omega) (by omega) (by omega) (by omega)) (fun z25 hz25=>⟨(by simp [hf]), ?_⟩)
 refine WOps.norm (by simp [hf]; rfl) ?_
 refine oN 9 ?_
 refine oK [3,4] ?_
 obtain ⟨⟨b,fc,hb⟩,g⟩:=z25
 obtain ⟨qmm,_,_⟩:=hz25
 have hM:MadeB b 4 2 3 5:=qmm
 have hm1:b.mas.length≤4:=hM.mas
 have hm2:b.wei.length≤3:=hM.wei
 have hm3:b.scl.length≤2:=hM.scl
 have hm4:b.tri.length≤3:=hM.tri
 have hs1:1≤b.scl.length:=hM.ok.s1
 replace F:=F.add hM |>.add hm1 |>.add hm2 |>.add hm3 |>.add hm4 |>.add hs1
 refine rK [3,4,7] ?_
 refine rK [3,4,7] ?_
 obtain ⟨g1,qg1⟩:∃ x,shuF g b.wei.length=x:=⟨_,rfl⟩
 have hg1:=qg1
 obtain ⟨g2,qg2⟩:∃ x,shuF g1 b.tri.length=x:=⟨_,rfl⟩
 have hg2:=qg2
 obtain ⟨w,qw⟩:∃ x,shuL g b.wei.length=x:=⟨_,rfl⟩
 have hw:=qw
 obtain ⟨t,qt⟩:∃ x,shuL g1 b.tri.length=x:=⟨_,rfl⟩
 have ht:=qt
 have hwl:w.length=b.wei.length:=by rw [← qw,shuL_len]
 have htl:t.length=b.tri.length:=by rw [← qt,shuL_len]
 replace F:=F.add hg1 |>.add hg2 |>.add hw |>.add ht |>.add hwl |>.add htl
 refine wD 9 [(4,[176])] [[],[],[1],[1,2],[2,1,3,0],[],[],[6],[6,7],[0,3,1,2,4,7,6,8,5],[5,8,6,7,9,0,3,1,2,4],[10,5,8,6,7,4,2,1,3,0,9]] ?_
 refine dB [([33,34,35,37,38,39,40],[],[]),([32,37,38,39,40],[false],[]),([32,37,38,39,40],[false,true],[]),([32,37,38,39,40],[false,true,true],[])] 5 4 ?_
 refine dC [37,38,39,40] [true,true,true,true] [] [(10000,176)] ?_
 refine cd (Shuffle_imm g b.wei.length (by omega)) ?_
 refine dB [([32,33,34,35,36,38,39,40],[false,false,false,false,false],[176]),([32,33,34,35,36,37],[false,false,false,false,false,false],[176]),([32,33,34,35,36,37],[false,false,false,false,false,false,true],[176]),([32,33,34,35,36,37],[false,false,false,false,false,false,true,true],[176])] 0 9 ?_
 refine dD ?_
 refine oC [(10000,176)] ?_
 refine ct (Shuffle_imm g1 b.tri.length (by omega)) ?_
 refine oN 2 ?_
 refine oK [3,4,7,8,9] ?_
 refine W.seqk fun K1 hK1=>?_
 refine rK [3,4,7,8,9,10] ?_
 refine W.block ?_
 refine sno 56 0 1 9000 85 4 ?_
 refine lpa (α:=Nat×List Wei×Int) [3,4,7,8,9] [44,63,64,69,70] [56,9000,176] (fun x=>[(10,I x.1)]) (fun x=>[(56,.row false 27 5 [.agg [masV b.mas,.own 9000 0 x.2.1.length,sclV b.scl,.val (.slice none 0 0),I b.days]]),(9000,.row true 85 4 (x.2.1.map W4)),(176,die x.2.2)]) (fun x=>x.1≤b.wei.length∧x.2.1.length=2 * x.1∧(∀ y∈x.2.1,y∈b.wei)∧∀ k,(h:k < w.length)→k < x.1→nth b.wei (w[k]).toNat∈x.2.1) (fun x=>b.wei.length - x.1) (0,[],g2) v0 ?_
 ·
  intro ⟨i,ws,ga⟩ hI0
  simp only [List.cons_append,List.nil_append]
  try dsimp only at hI0
  obtain ⟨hi,hwsl,kw1,kw2⟩:=hI0
  replace F:=F.add hi |>.add hwsl
  refine W.seqk fun K2 hK2=>?_
  refine rK [3,4,7,8,9,10,45] ?_
  refine it (fun hc1=>?_) (fun hc1=>?_)
  ·
   try simp at hc1
   replace F:=F.add hc1
   refine W.skip ?_
   refine hK2 _ ?_
   clear hK2 K2
   refine W.seqk fun K3 hK3=>?_
   refine W.block ?_
   have hil:i < b.wei.length:=by omega
   have hiw:i < w.length:=by omega
   have qm1:=shuL_mem (f:=g) (n:=b.wei.length) (x:=w[i]) (by rw [qw]; exact List.getElem_mem hiw)
   obtain ⟨p,qp⟩:∃ p:Nat,w[i]=p:=⟨(w[i]).toNat,by omega⟩
   have hwp:=qp
   have hpl:p < b.wei.length:=by omega
   have qc1:=castV_lo ga (b.wei.length:Int)
   have qc2:=castV_le ga (b.wei.length:Int) (by omega)
   obtain ⟨k,qk⟩:∃ k:Nat,castV ga (b.wei.length:Int)=k:=⟨(castV ga (b.wei.length:Int)).toNat,by omega⟩
   have hkv:=qk
   obtain ⟨gb,qgb⟩:∃ x,castF ga (b.wei.length:Int)=x:=⟨_,rfl⟩
   have hgb:=qgb
   have hkl:k < b.wei.length:=by omega
   have hkw:k < w.length:=by omega
   have qm2:=shuL_mem (f:=g) (n:=b.wei.length) (x:=w[k]) (by rw [qw]; exact List.getElem_mem hkw)
   obtain ⟨q,qq⟩:∃ q:Nat,w[k]=q:=⟨(w[k]).toNat,by omega⟩
   have hwq:=qq
   have hql:q < b.wei.length:=by omega
   have hkli:(k:Int) < b.wei.length:=by omega
   have hpli:(p:Int) < b.wei.length:=by omega
   have hqli:(q:Int) < b.wei.length:=by omega
   replace F:=F.add hil |>.add hiw |>.add hwp |>.add hpl |>.add hkv |>.add hgb |>.add hkl |>.add hkw |>.add hwq |>.add hql |>.add hkli |>.add hpli |>.add hqli
   refine wDe 22 [(16,[176])] [[],[0],[],[2],[],[],[5,4],[4,5,6],[6,5,4,7,2,3],[3,2,7,4,5,6,8],[],[10],[],[],[],[14],[14,15,13],[13,15,14,16,12],[12,16,14,15,13,17],[17,13,15,14,16,12,18,10,11],[11,10,18,12,16,14,15,13,17,19],[19,17,13,15,14,16,12,18,10,11,20,8,6,5,4,7,2,3,9],[9,3,2,7,4,5,6,8,20,11,10,18,12,16,14,15,13,17,19,21,0,1],[22,21,20,19,18,17,16,15,14,13,12,11,10,9,8,7,6,5,4,3,2,1,0],[0,1,2,3,4,5,6,7,8,9,10,11,12,13,14,15,16,17,18,19,20,21,22,23]] ?_
   refine dB [([50,51,52,53,54,55,56,57,58,59,60,61,62,63,64,65,66,67,68,69],[],[176]),([50,51,52,53,54,55,56,57,58,59,60,61,62,63,64,65,66,67,68,69],[true],[176]),([48,49,52,53,54,55,58,59,60,61,62,63,64,65,66,67,68],[false,false],[176]),([48,49,52,53,54,55,58,59,60,61,62,63,64,65,66,67,68],[false,false,true],[176]),([48,49,50,51,53,58,59,60,61,62,63,64,65,66,67,68],[false,false,false,false],[176]),([48,49,50,51,52,58,59,60,61,62,63,64,65,66,67,68],[false,false,false,false,false],[176]),([48,49,50,51,58,59,60,61,62,63,64,65,66,67,68],[false,false,false,false,true,true],[176]),([48,49,50,51,58,59,60,61,62,63,64,65,66,67,68],[false,false,false,false,true,true,true],[176]),([48,49,58,59,60,61,62,63,64,65,66,67,68],[false,false,true,true,true,true,true,true],[176]),([48,49,58,59,60,61,62,63,64,65,66,67,68],[false,false,true,true,true,true,true,true,true],[176]),([48,49,50,51,52,53,54,55,56,57,60,61,62,63,64,65,66],[false,false,false,false,false,false,false,false,false,false],[176]),([48,49,50,51,52,53,54,55,56,57,60,61,62,63,64,65,66],[false,false,false,false,false,false,false,false,false,false,true],[176]),([48,49,50,51,52,53,54,55,56,57,58,59,61,62,63,64],[false,false,false,false,false,false,false,false,false,false,false,false],[176]),([48,49,50,51,52,53,54,55,56,57,58,59,60,62,63],[false,false,false,false,false,false,false,false,false,false,false,false,false],[]),([48,49,50,51,52,53,54,55,56,57,58,59,60,61],[false,false,false,false,false,false,false,false,false,false,false,false,false,false],[]),([48,49,50,51,52,53,54,55,56,57,58,59,60,61],[false,false,false,false,false,false,false,false,false,false,false,false,false,false,true],[])] 6 16 ?_
   refine dC [48,49,50,51,52,53,54,55,56,57,58,59,60] [false,false,false,false,false,false,false,false,false,false,false,false,false,true,true,true] [] [(10000,176)] ?_
   refine cd (Cast_ok ga (b.wei.length:Int) (by omega)) ?_
   refine dB [([48,49,50,51,52,53,54,55,56,57,58,59],[false,false,false,false,false,false,false,false,false,false,false,false,true,true,true,true,true],[]),([48,49,50,51,52,53,54,55,56,57,58,59],[false,false,false,false,false,false,false,false,false,false,false,false,true,true,true,true,true,true],[]),([48,49,50,51,52,53,54,55,56,57],[false,false,false,false,false,false,false,false,false,false,true,true,true,true,true,true,true,true,true],[]),([48,49,50,51,52,53,54,55,56,57],[false,false,false,false,false,false,false,false,false,false,true,true,true,true,true,true,true,true,true,true],[]),([48,49],[false,false,true,true,true,true,true,true,true,true,true,true,true,true,true,true,true,true,true,true,true],[])] 0 22 ?_
   refine dD ?_
   refine oNw 3 ?_
   refine WOps.endK ?_
   refine hK3 _ ?_
   clear hK3 K3
   refine rEw ?_
   refine ⟨(i + 1,ws ++ [b.wei[p],b.wei[q]],gb),lf0, ?_,v0⟩
   ·
    first
    | exact ⟨by show i + 1≤b.wei.length; omega,by show (ws ++ [_,_]).length=2 * (i + 1); rw [List.length_append,hwsl]; simp; omega,mem_snoc2 kw1 (List.getElem_mem hpl) (List.getElem_mem hql),fun k2 h2 h3=>mix_step (m:=ws) (i:=i) (L:=b.wei) (fun h=>kw2 k2 h2 h) h3 (fun h=>by subst h; exact qp) hpl⟩
    | exact ⟨by show j + 1≤b.tri.length; omega,by show (ts ++ [_,_]).length=2 * (j + 1); rw [List.length_append,htsl]; simp; omega,mem_snoc2 kt1 (List.getElem_mem hpl) (List.getElem_mem hql),fun k2 h2 h3=>mix_step (m:=ts) (i:=j) (L:=b.tri) (fun h=>kt2 k2 h2 h) h3 (fun h=>by subst h; exact qp) hpl⟩
  ·
   try simp at hc1
   replace F:=F.add hc1
   refine W.exit ?_
   refine hK1 _ ?_
   clear hK2 K2 hK1 K1
   refine W.seqk fun K4 hK4=>?_
   refine rK [3,4,7,9,11] ?_
   refine W.block ?_
   refine sno 56 0 3 9001 29 4 ?_
   refine lpa (α:=Nat×List Tri×Int) [3,4,7,9] [74,93,94,99,100] [56,9001,176] (fun x=>[(11,I x.1)]) (fun x=>[(56,.row false 27 5 [.agg [masV b.mas,.own 9000 0 ws.length,sclV b.scl,.own 9001 0 x.2.1.length,I b.days]]),(9001,.row true 29 4 (x.2.1.map R4)),(176,die x.2.2)]) (fun x=>x.1≤b.tri.length∧x.2.1.length=2 * x.1∧(∀ y∈x.2.1,y∈b.tri)∧∀ k,(h:k < t.length)→k < x.1→nth b.tri (t[k]).toNat∈x.2.1) (fun x=>b.tri.length - x.1) (0,[],ga) v0 ?_
   ·
    intro ⟨j,ts,gc⟩ hI1
    simp only [List.cons_append,List.nil_append]
    try dsimp only at hI1
    obtain ⟨hj,htsl,kt1,kt2⟩:=hI1
    replace F:=F.add hj |>.add htsl
    refine W.seqk fun K5 hK5=>?_
    refine rK [3,4,7,9,11,75] ?_
    refine it (fun hc2=>?_) (fun hc2=>?_)
    ·
     try simp at hc2
     replace F:=F.add hc2
     refine W.skip ?_
     refine hK5 _ ?_
     clear hK5 K5
     refine W.seqk fun K6 hK6=>?_
     refine W.block ?_
     have hil:j < b.tri.length:=by omega
     have hiw:j < t.length:=by omega
     have qm1:=shuL_mem (f:=g1) (n:=b.tri.length) (x:=t[j]) (by rw [qt]; exact List.getElem_mem hiw)
     obtain ⟨p,qp⟩:∃ p:Nat,t[j]=p:=⟨(t[j]).toNat,by omega⟩
     have hwp:=qp
     have hpl:p < b.tri.length:=by omega
     have qc1:=castV_lo gc (b.tri.length:Int)
     have qc2:=castV_le gc (b.tri.length:Int) (by omega)
     obtain ⟨k,qk⟩:∃ k:Nat,castV gc (b.tri.length:Int)=k:=⟨(castV gc (b.tri.length:Int)).toNat,by omega⟩
     have hkv:=qk
     obtain ⟨gd,qgd⟩:∃ x,castF gc (b.tri.length:Int)=x:=⟨_,rfl⟩
     have hgd:=qgd
     have hkl:k < b.tri.length:=by omega
     have hkw:k < t.length:=by omega
     have qm2:=shuL_mem (f:=g1) (n:=b.tri.length) (x:=t[k]) (by rw [qt]; exact List.getElem_mem hkw)
     obtain ⟨q,qq⟩:∃ q:Nat,t[k]=q:=⟨(t[k]).toNat,by omega⟩
     have hwq:=qq
     have hql:q < b.tri.length:=by omega
     have hkli:(k:Int) < b.tri.length:=by omega
     have hpli:(p:Int) < b.tri.length:=by omega
     have hqli:(q:Int) < b.tri.length:=by omega
     replace F:=F.add hil |>.add hiw |>.add hwp |>.add hpl |>.add hkv |>.add hgd |>.add hkl |>.add hkw |>.add hwq |>.add hql |>.add hkli |>.add hpli |>.add hqli
     refine wDe 22 [(16,[176])] [[],[0],[],[2],[],[],[5,4],[4,5,6],[6,5,4,7,2,3],[3,2,7,4,5,6,8],[],[10],[],[],[],[14],[14,15,13],[13,15,14,16,12],[12,16,14,15,13,17],[17,13,15,14,16,12,18,10,11],[11,10,18,12,16,14,15,13,17,19],[19,17,13,15,14,16,12,18,10,11,20,8,6,5,4,7,2,3,9],[9,3,2,7,4,5,6,8,20,11,10,18,12,16,14,15,13,17,19,21,0,1],[22,21,20,19,18,17,16,15,14,13,12,11,10,9,8,7,6,5,4,3,2,1,0],[0,1,2,3,4,5,6,7,8,9,10,11,12,13,14,15,16,17,18,19,20,21,22,23]] ?_
     refine dB [([80,81,82,83,84,85,86,87,88,89,90,91,92,93,94,95,96,97,98,99],[],[176]),([80,81,82,83,84,85,86,87,88,89,90,91,92,93,94,95,96,97,98,99],[true],[176]),([78,79,82,83,84,85,88,89,90,91,92,93,94,95,96,97,98],[false,false],[176]),([78,79,82,83,84,85,88,89,90,91,92,93,94,95,96,97,98],[false,false,true],[176]),([78,79,80,81,83,88,89,90,91,92,93,94,95,96,97,98],[false,false,false,false],[176]),([78,79,80,81,82,88,89,90,91,92,93,94,95,96,97,98],[false,false,false,false,false],[176]),([78,79,80,81,88,89,90,91,92,93,94,95,96,97,98],[false,false,false,false,true,true],[176]),([78,79,80,81,88,89,90,91,92,93,94,95,96,97,98],[false,false,false,false,true,true,true],[176]),([78,79,88,89,90,91,92,93,94,95,96,97,98],[false,false,true,true,true,true,true,true],[176]),([78,79,88,89,90,91,92,93,94,95,96,97,98],[false,false,true,true,true,true,true,true,true],[176]),([78,79,80,81,82,83,84,85,86,87,90,91,92,93,94,95,96],[false,false,false,false,false,false,false,false,false,false],[176]),([78,79,80,81,82,83,84,85,86,87,90,91,92,93,94,95,96],[false,false,false,false,false,false,false,false,false,false,true],[176]),([78,79,80,81,82,83,84,85,86,87,88,89,91,92,93,94],[false,false,false,false,false,false,false,false,false,false,false,false],[176]),([78,79,80,81,82,83,84,85,86,87,88,89,90,92,93],[false,false,false,false,false,false,false,false,false,false,false,false,false],[]),([78,79,80,81,82,83,84,85,86,87,88,89,90,91],[false,false,false,false,false,false,false,false,false,false,false,false,false,false],[]),([78,79,80,81,82,83,84,85,86,87,88,89,90,91],[false,false,false,false,false,false,false,false,false,false,false,false,false,false,true],[])] 6 16 ?_
     refine dC [78,79,80,81,82,83,84,85,86,87,88,89,90] [false,false,false,false,false,false,false,false,false,false,false,false,false,true,true,true] [] [(10000,176)] ?_
     refine cd (Cast_ok gc (b.tri.length:Int) (by omega)) ?_
     refine dB [([78,79,80,81,82,83,84,85,86,87,88,89],[false,false,false,false,false,false,false,false,false,false,false,false,true,true,true,true,true],[]),([78,79,80,81,82,83,84,85,86,87,88,89],[false,false,false,false,false,false,false,false,false,false,false,false,true,true,true,true,true,true],[]),([78,79,80,81,82,83,84,85,86,87],[false,false,false,false,false,false,false,false,false,false,true,true,true,true,true,true,true,true,true],[]),([78,79,80,81,82,83,84,85,86,87],[false,false,false,false,false,false,false,false,false,false,true,true,true,true,true,true,true,true,true,true],[]),([78,79],[false,false,true,true,true,true,true,true,true,true,true,true,true,true,true,true,true,true,true,true,true],[])] 0 22 ?_
     refine dD ?_
     refine oNw 3 ?_
     refine WOps.endK ?_
     refine hK6 _ ?_
     clear hK6 K6
     refine rEw ?_
     refine ⟨(j + 1,ts ++ [b.tri[p],b.tri[q]],gd),lf0, ?_,v0⟩
     ·
      first
      | exact ⟨by show i + 1≤b.wei.length; omega,by show (ws ++ [_,_]).length=2 * (i + 1); rw [List.length_append,hwsl]; simp; omega,mem_snoc2 kw1 (List.getElem_mem hpl) (List.getElem_mem hql),fun k2 h2 h3=>mix_step (m:=ws) (i:=i) (L:=b.wei) (fun h=>kw2 k2 h2 h) h3 (fun h=>by subst h; exact qp) hpl⟩
      | exact ⟨by show j + 1≤b.tri.length; omega,by show (ts ++ [_,_]).length=2 * (j + 1); rw [List.length_append,htsl]; simp; omega,mem_snoc2 kt1 (List.getElem_mem hpl) (List.getElem_mem hql),fun k2 h2 h3=>mix_step (m:=ts) (i:=j) (L:=b.tri) (fun h=>kt2 k2 h2 h) h3 (fun h=>by subst h; exact qp) hpl⟩
    ·
     try simp at hc2
     replace F:=F.add hc2
     refine W.exit ?_
     refine hK4 _ ?_
     clear hK5 K5 hK4 K4
     refine W.seqR ?_
     refine oN 4 ?_
     refine oC [(10000,176)] ?_
     refine CallT.mkE (Cast_E gc (b.scl.length:Int) (by omega) (by omega)) (fun z106 hz106=>⟨(by simp [hf,hM,hm1,hm2,hm3,hm4,hs1,hg1,hg2,hw,ht,hwl,htl,hi,hwsl,hc1,hj,htsl,hc2]), ?_⟩)
     obtain ⟨sn,qsn⟩:∃ sn:Nat,z106.1=(sn:Int):=⟨z106.1.toNat,by omega⟩
     have hsn:=qsn
     have hsnl:sn < b.scl.length:=by omega
     replace F:=F.add hsn |>.add hsnl
     refine WOps.norm (by simp [hf,hM,hm1,hm2,hm3,hm4,hs1,hg1,hg2,hw,ht,hwl,htl,hi,hwsl,hc1,hj,htsl,hc2,hsn,hsnl]; rfl) ?_
     refine oN 1 ?_
     refine oK [4,7,12] ?_
     have htka:List.take (2 * i) ws=ws:=List.take_of_length_le (by omega)
     have htkb:List.take (2 * j) ts=ts:=List.take_of_length_le (by omega)
     obtain ⟨o,qo⟩:∃ o,o=wth b ws ts:=⟨_,rfl⟩
     have qin1:∀ y∈b.wei,y∈ws:=fun y hy=>by
       obtain ⟨k,hk,rfl⟩:=List.getElem_of_mem hy
       have h1:=shuL_all (f:=g) hk
       rw [qw] at h1
       obtain ⟨m,hm,e⟩:=List.getElem_of_mem h1
       have:=kw2 m hm (by omega)
       rw [e,Int.toNat_natCast,nth_get hk] at this; exact this
     have qin2:∀ y∈b.tri,y∈ts:=fun y hy=>by
       obtain ⟨k,hk,rfl⟩:=List.getElem_of_mem hy
       have h1:=shuL_all (f:=g1) hk
       rw [qt] at h1
       obtain ⟨m,hm,e⟩:=List.getElem_of_mem h1
       have:=kt2 m hm (by omega)
       rw [e,Int.toNat_natCast,nth_get hk] at this; exact this
     have qv:=hM.ok
     have qv2:ValidB (wth b ws ts):=⟨qv.m1,qv.m5,qv.mas,by show ws.length≤6; omega,fun y hy=>qv.wei y (kw1 y hy),qv.s1,qv.s3,qv.scl,qv.days,by show ts.length≤6; omega,fun y hy=>qv.tri y (kt1 y hy)⟩
     have qfit:∀ x,Fits (wth b ws ts) x↔Fits b x:=fun x=>by
       rw [wth_fits,self_fits]
       exact ⟨fun ⟨a1,a2,a3⟩=>⟨a1,fun y hy=>a2 y (qin1 y hy),fun y hy=>a3 y (qin2 y hy)⟩,fun ⟨a1,a2,a3⟩=>⟨a1,fun y hy=>a2 y (kw1 y hy),fun y hy=>a3 y (kt1 y hy)⟩⟩
     obtain ⟨qs1,qs2,qs3⟩:=same_fits qv qv2 qfit
     have qs4:=qs3 sn hsnl
     have hso:offsE o=offsE b:=by rw [qo]; exact qs1
     have hsl:offsL o=offsL b:=by rw [qo]; exact qs2
     have hse:errsE o sn=errsE b sn:=by rw [qo]; exact qs4.1
     have hsf:errsL o sn=errsL b sn:=by rw [qo]; exact qs4.2
     have qlb:=made_len hM (by omega) (by omega) (by omega)
     have qlo:LenB o:=by rw [qo]; exact ⟨qlb.mas,by show ws.length≤1000; omega,qlb.scl,by show ts.length≤1000; omega⟩
     have qof:ACalls Try.prog 37 [.agg [masV b.mas,weiV ws,sclV b.scl,triV ts,I b.days]] [] (fun r o'=>r = .tup [spansV (offsL b),I (offsE b)]∧o'=[]):=by
       have h:=Offs_ok o qlo
       rw [hso,hsl,qo] at h; exact h
     have qer:ACalls Try.prog 39 [.agg [masV b.mas,weiV ws,sclV b.scl,triV ts,I b.days],I sn] [] (fun r o'=>r = .tup [spansV (errsL b sn),I (errsE b sn)]∧o'=[]):=by
       have h:=Errors_ok o qlo sn
       rw [hse,hsf,qo] at h; exact h
     have qknc:=knE_cases b
     have qoe:offsE b=knE b:=by unfold offsE; rw [if_neg (fun n=>n (checkB_zero.2 qv))]
     obtain ⟨E,qE⟩:∃ E,offsE b=E:=⟨_,rfl⟩
     have hE:=qE
     have hE09:E=0∨E=9:=by rw [← qE,qoe]; exact qknc
     replace F:=F.add htka |>.add htkb |>.add hso |>.add hsl |>.add hse |>.add hsf |>.add hE |>.add hE09
     refine W.weaken (Le.freeze (id:=9000) (by simp [hf,hM,hm1,hm2,hm3,hm4,hs1,hg1,hg2,hw,ht,hwl,htl,hi,hwsl,hc1,hj,htsl,hc2,hsn,hsnl,htka,htkb,hso,hsl,hse,hsf,hE,hE09]; rfl)) ?_
     refine W.weaken (Le.freeze (id:=9001) (by simp [hf,hM,hm1,hm2,hm3,hm4,hs1,hg1,hg2,hw,ht,hwl,htl,hi,hwsl,hc1,hj,htsl,hc2,hsn,hsnl,htka,htkb,hso,hsl,hse,hsf,hE,hE09]; rfl)) ?_
     refine W.seqR ?_
     refine oN 1 ?_
     refine oC [] ?_
     refine ct (Offs_ok b qlb) ?_
     refine oN 5 ?_
     refine oK [4,7,12,13,14] ?_
     refine W.seqR ?_
     refine oN 1 ?_
     refine oC [] ?_
     refine ct (qof) ?_
     refine oN 5 ?_
     refine oK [4,7,12,13,14,15,16] ?_
     refine W.seqR ?_
     refine oN 2 ?_
     refine oC [] ?_
     refine ct (Errors_ok b qlb sn) ?_
     refine oN 5 ?_
     refine oK [7,12,13,14,15,16,17,18] ?_
     refine W.seqR ?_
     refine oN 2 ?_
     refine oC [] ?_
     refine ct (qer) ?_
     refine oN 5 ?_
     refine oK [13,14,15,16,17,18,19,20] ?_
     by_cases hz0:E=0
     ·
      replace F:=F.add hz0
      refine W.seqR ?_
      refine oN 4 ?_
      refine gT ?_
      refine gT ?_
      refine gT ?_
      refine oN 2 ?_
      refine gT ?_
      refine gT ?_
      refine gT ?_
      refine gF ?_
      refine gF ?_
      refine gT ?_
      refine oN 2 ?_
      refine gT ?_
      refine gT ?_
      refine gC [] ?_
      refine ct (SameSpans_ok (offsL b) (offsL b)) ?_
      refine oN 2 ?_
      refine gT ?_
      refine gT ?_
      refine gC [] ?_
      refine ct (SameSpans_ok (errsL b sn) (errsL b sn)) ?_
      refine oN 2 ?_
      refine gC [] ?_
      refine ct (awake_ok) ?_
      refine oN 2 ?_
      refine oK [2] ?_
      refine W.ret ?_
      exact er0 false [] []
     ·
      replace F:=F.add hz0
      have hE9:E=9:=by omega
      replace F:=F.add hE9
      refine W.seqR ?_
      refine oN 4 ?_
      refine gT ?_
      refine gT ?_
      refine gT ?_
      refine oN 2 ?_
      refine gT ?_
      refine gT ?_
      refine gT ?_
      refine gT ?_
      refine gT ?_
      refine gT ?_
      refine oN 2 ?_
      refine gT ?_
      refine gT ?_
      refine gC [] ?_
      refine ct (SameSpans_ok (offsL b) (offsL b)) ?_
      refine oN 2 ?_
      refine gT ?_
      refine gT ?_
      refine gC [] ?_
      refine ct (SameSpans_ok (errsL b sn) (errsL b sn)) ?_
      refine oN 2 ?_
      refine gC [] ?_
      refine ct (awake_ok) ?_
      refine oN 2 ?_
      refine oK [2] ?_
      refine W.ret ?_
      exact er0 false [] []
end Go.Sim
