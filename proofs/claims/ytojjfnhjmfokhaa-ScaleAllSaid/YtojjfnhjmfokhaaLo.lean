/- Numbers and spans that follow from a list of numbers. -/
import Derived.Test.YtojjfnhjmfokhaaLa
namespace Go.Sim
set_option maxHeartbeats 4000000
open Go.Proofs
set_option maxRecDepth 100000
set_option linter.unusedSimpArgs false
set_option linter.unusedVariables false
attribute [-simp] List.map_set List.map_take List.map_drop
theorem Cast_E (f n:Int) (h1:1≤n) (hn:n<9223372036854775808):ACalls Try.prog 25 [.ptr 10000 0 0,I n] [(10000,die f)] (fun r o=>∃z:Int×Int,r=I z.1∧o=[(10000,die z.2)]∧(0≤z.1∧z.1≤n-1)):=
  (Cast_ok f n hn).mono fun _ _ h=>⟨(castV f n,castF f n),h.1,h.2,castV_lo f n,castV_le f n h1⟩
theorem From_E (f lo hi:Int) (hlh:lo≤hi) (h1 : -1000000000000≤lo) (h2:hi≤1000000000000):ACalls Try.prog 59 [.ptr 10000 0 0,I lo,I hi] [(10000,die f)] (fun r o=>∃z:Int×Int,r=I z.1∧o=[(10000,die z.2)]∧(lo≤z.1∧z.1≤hi)):=
  (From_ok f lo hi h1 (by omega) (by omega) h2).mono fun _ _ h=>⟨(fromV f lo hi,fromF f lo hi),h.1,h.2,fromV_range f hlh⟩
theorem One_E (f:Int) (l:List Int) (h0:l≠[]) (hl:l.length<9223372036854775808):ACalls Try.prog 60 [.ptr 10000 0 0,ints l] [(10000,die f)] (fun r o=>∃z:Int×Int,r=I z.1∧o=[(10000,die z.2)]∧z.1∈l):=
  (One_ok f l hl).mono fun _ _ h=>⟨(oneV f l,oneF f l),h.1,h.2,oneV_mem f l h0⟩
noncomputable def spnD (f lo hi:Int):Spn:=⟨fromV f lo hi,fromV (oneF (fromF f lo hi) [fromV f lo hi,min hi (fromV f lo hi+4),hi]) (fromV f lo hi) (oneV (fromF f lo hi) [fromV f lo hi,min hi (fromV f lo hi+4),hi])⟩
noncomputable def spnF (f lo hi:Int):Int:=fromF (oneF (fromF f lo hi) [fromV f lo hi,min hi (fromV f lo hi+4),hi]) (fromV f lo hi) (oneV (fromF f lo hi) [fromV f lo hi,min hi (fromV f lo hi+4),hi])
theorem spnD_range (f:Int){lo hi:Int}(h:lo≤hi):lo≤(spnD f lo hi).lo∧(spnD f lo hi).lo≤(spnD f lo hi).hi∧(spnD f lo hi).hi≤hi:=by
  have h1:=fromV_range f h
  have h2:=oneV_mem (fromF f lo hi) [fromV f lo hi,min hi (fromV f lo hi+4),hi] (by simp)
  simp only [List.mem_cons,List.not_mem_nil,or_false] at h2
  have h3:=fromV_range (oneF (fromF f lo hi) [fromV f lo hi,min hi (fromV f lo hi+4),hi]) (lo:=fromV f lo hi) (hi:=oneV (fromF f lo hi) [fromV f lo hi,min hi (fromV f lo hi+4),hi]) (by omega)
  unfold spnD
  simp only
  omega
theorem Span_ok (f lo hi:Int) (hlh:lo≤hi) (h1 : -1000000≤lo) (h2:hi≤1000000):ACalls Try.prog 24 [.ptr 10000 0 0,I lo,I hi] [(10000,die f)] (fun r o=>r = .agg [I (spnD f lo hi).lo,I (spnD f lo hi).hi]∧o=[(10000,die (spnF f lo hi))]):=by
 have F:=Fx.nil
 replace F:=F.add hlh |>.add h1 |>.add h2
 refine ent Try.func24 Try.ntmps24 Try.results24 ?_
 obtain ⟨n,qn⟩:∃n,fromV f lo hi=n:=⟨_,rfl⟩
 obtain ⟨g,qg⟩:∃g,fromF f lo hi=g:=⟨_,rfl⟩
 have hn:=qn
 have hg2:=qg
 have qnr:lo≤n∧n≤hi:=by rw [←qn];exact fromV_range f hlh
 obtain ⟨m,qm⟩:∃m,m=min hi (n+4):=⟨_,rfl⟩
 have hm1:(if hi<n+4 then hi else n+4)=m:=by split<;>omega
 have hm2:(if n+4<hi then n+4 else hi)=m:=by split<;>omega
 have qmo:=oneV_mem g [n,m,hi] (by simp)
 simp only [List.mem_cons,List.not_mem_nil,or_false] at qmo
 obtain ⟨x,qx⟩:∃x,oneV g [n,m,hi]=x:=⟨_,rfl⟩
 obtain ⟨g2,qg2⟩:∃g2,oneF g [n,m,hi]=g2:=⟨_,rfl⟩
 have hx:=qx
 have hg3:=qg2
 have qxr:n≤x∧x≤hi:=by rw [←qx];omega
 replace F:=F.add hn |>.add hg2 |>.add hm1 |>.add hm2 |>.add hx |>.add hg3
 refine rK [0,1,2,6] ?_
 refine W.seqR ?_
 refine oN 3 ?_
 refine oC [(10000,10000)] ?_
 refine ct (From_ok _ _ _ (by omega) (by omega) (by omega) (by omega)) ?_
 refine oN 1 ?_
 refine oK [0,2,6,7] ?_
 refine W.seqR ?_
 refine oNw 8 ?_
 refine oC [(10000,10000)] ?_
 refine ct (One_ok g [n,m,hi] (by simp)) ?_
 refine oN 1 ?_
 refine oK [0,6,7,8] ?_
 refine W.seqR ?_
 refine oN 4 ?_
 refine oC [(10000,10000)] ?_
 refine ct (From_ok _ _ _ (by omega) (by omega) (by omega) (by omega)) ?_
 refine oN 2 ?_
 refine oK [6] ?_
 refine W.ret ?_
 refine er false [] [(10000,10000)] ?_
 have e1:spnD f lo hi=⟨n,fromV g2 n x⟩:=by rw [spnD,qn,qg,←qm,qx,qg2]
 have e2:spnF f lo hi=fromF g2 n x:=by rw [spnF,qn,qg,←qm,qx,qg2]
 rw [e1,e2];exact ⟨rfl,rfl⟩
theorem Span_E (f lo hi:Int) (hlh:lo≤hi) (h1 : -1000000≤lo) (h2:hi≤1000000):ACalls Try.prog 24 [.ptr 10000 0 0,I lo,I hi] [(10000,die f)] (fun r o=>∃z:Spn×Int,r = .agg [I z.1.lo,I z.1.hi]∧o=[(10000,die z.2)]∧(lo≤z.1.lo∧z.1.lo≤z.1.hi∧z.1.hi≤hi)):=
  (Span_ok f lo hi hlh h1 h2).mono fun _ _ h=>⟨(spnD f lo hi,spnF f lo hi),h.1,h.2,spnD_range f hlh⟩
noncomputable def truV (f:Int) (x:Spn):Int:=oneV (fromF (fromF f x.lo x.hi) x.lo x.hi) [x.lo,x.hi,fromV f x.lo x.hi,fromV (fromF f x.lo x.hi) x.lo x.hi]
noncomputable def truF (f:Int) (x:Spn):Int:=oneF (fromF (fromF f x.lo x.hi) x.lo x.hi) [x.lo,x.hi,fromV f x.lo x.hi,fromV (fromF f x.lo x.hi) x.lo x.hi]
theorem truV_range (f:Int){x:Spn}(h:x.lo≤x.hi):x.lo≤truV f x∧truV f x≤x.hi:=by
  have h1:=fromV_range f h
  have h2:=fromV_range (fromF f x.lo x.hi) h
  have h3:=oneV_mem (fromF (fromF f x.lo x.hi) x.lo x.hi) [x.lo,x.hi,fromV f x.lo x.hi,fromV (fromF f x.lo x.hi) x.lo x.hi] (by simp)
  simp only [List.mem_cons,List.not_mem_nil,or_false] at h3
  unfold truV
  omega
theorem True_ok (f:Int) (x:Spn) (h1 : -1000000≤x.lo) (h2:x.hi≤1000000) (h3:x.lo≤x.hi):ACalls Try.prog 34 [.ptr 10000 0 0,spnV x] [(10000,die f)] (fun r o=>r=I (truV f x)∧o=[(10000,die (truF f x))]):=by
 have F:=Fx.nil
 replace F:=F.add h1 |>.add h2 |>.add h3
 refine ent Try.func34 Try.ntmps34 Try.results34 ?_
 obtain ⟨a,qa⟩:∃a,fromV f x.lo x.hi=a:=⟨_,rfl⟩
 obtain ⟨g1,qg1⟩:∃g,fromF f x.lo x.hi=g:=⟨_,rfl⟩
 obtain ⟨b,qb⟩:∃b,fromV g1 x.lo x.hi=b:=⟨_,rfl⟩
 obtain ⟨g2,qg2⟩:∃g,fromF g1 x.lo x.hi=g:=⟨_,rfl⟩
 have ha:=qa
 have hg1:=qg1
 have hb:=qb
 have hg2:=qg2
 replace F:=F.add ha |>.add hg1 |>.add hb |>.add hg2
 refine rK [0,3] ?_
 refine wD 18 [(10,[10000]),(16,[10000])] [[],[],[1],[],[3],[],[],[6],[],[8],[8,9,6,7,5],[],[],[12],[],[14],[5,7,6,9,8,10,14,15,12,13,11],[11,13,12,15,14,16,5,7,6,9,8,10,3,4,1,2],[2,1,4,3,10,8,9,6,7,5,16,14,15,12,13,11,17,0],[0,17,11,13,12,15,14,16,5,7,6,9,8,10,3,4,1,2,18]] ?_
 refine dB [([6,7,8,9,10,11,12,13,14,15,16,17,18,19,20,21,22],[],[10000,10000]),([5,8,9,10,11,12,13,14,15,16,17,18,19,20,21],[false],[10000,10000]),([5,8,9,10,11,12,13,14,15,16,17,18,19,20,21],[false,true],[10000,10000]),([5,6,7,10,11,12,13,14,15,16,17,18,19,20,21],[false,false,false],[10000,10000]),([5,6,7,10,11,12,13,14,15,16,17,18,19,20,21],[false,false,false,true],[10000,10000]),([5,6,7,8,9,11,12,13,14,16,17,18,19,20],[false,false,false,false,false],[]),([5,6,7,8,9,10,13,14,16,17,18,19,20],[false,false,false,false,false,false],[]),([5,6,7,8,9,10,13,14,16,17,18,19,20],[false,false,false,false,false,false,true],[]),([5,6,7,8,9,10,11,12,16,17,18,19,20],[false,false,false,false,false,false,false,false],[]),([5,6,7,8,9,10,11,12,16,17,18,19,20],[false,false,false,false,false,false,false,false,true],[])] 8 10 ?_
 refine dC [5,6,7,8,9,16,17,18,19,20] [false,false,false,false,false,true,true,true,true,true] [] [(10000,10000)] ?_
 refine cd (From_ok _ _ _ (by omega) (by omega) (by omega) (by omega)) ?_
 refine dB [([5,6,7,8,9,10,11,12,13,14,15,17,18,19,20],[false,false,false,false,false,false,false,false,false,false,false],[10000]),([5,6,7,8,9,10,11,12,13,14,15,16,19,20],[false,false,false,false,false,false,false,false,false,false,false,false],[10000]),([5,6,7,8,9,10,11,12,13,14,15,16,19,20],[false,false,false,false,false,false,false,false,false,false,false,false,true],[10000]),([5,6,7,8,9,10,11,12,13,14,15,16,17,18],[false,false,false,false,false,false,false,false,false,false,false,false,false,false],[10000]),([5,6,7,8,9,10,11,12,13,14,15,16,17,18],[false,false,false,false,false,false,false,false,false,false,false,false,false,false,true],[10000])] 2 16 ?_
 refine dC [5,6,7,8,9] [false,false,false,false,false,true,true,true,true,true,true,true,true,true,true,true] [] [(10000,10000)] ?_
 refine cd (From_ok _ _ _ (by omega) (by omega) (by omega) (by omega)) ?_
 refine dB [([5],[false,true,true,true,true,true,true,true,true,true,true,true,true,true,true,true,true],[])] 0 18 ?_
 refine dD ?_
 refine oC [(10000,10000)] ?_
 refine ct (One_ok g2 [x.lo,x.hi,a,b] (by simp)) ?_
 refine oN 1 ?_
 refine oK [4] ?_
 refine W.ret ?_
 refine er false [] [(10000,10000)] ?_
 exact ⟨by rw [truV,qg1,qg2,qa,qb],by rw [truF,qg1,qg2,qa,qb]⟩
end Go.Sim
