/- Numbers and spans that follow from a list of numbers. -/
import Derived.Test.YtojjfnhjmfokhaaLa
namespace Go.Sim
open Go.Proofs
set_option maxRecDepth 100000
set_option linter.unusedSimpArgs false
set_option linter.unusedVariables false
attribute [-simp] List.map_set List.map_take List.map_drop
noncomputable def spnD (f lo hi:Int):Spn:=⟨fromV f lo hi,fromV (oneF (fromF f lo hi) [fromV f lo hi,min hi (fromV f lo hi+4),hi]) (fromV f lo hi) (oneV (fromF f lo hi) [fromV f lo hi,min hi (fromV f lo hi+4),hi])⟩
noncomputable def spnF (f lo hi:Int):Int:=fromF (oneF (fromF f lo hi) [fromV f lo hi,min hi (fromV f lo hi+4),hi]) (fromV f lo hi) (oneV (fromF f lo hi) [fromV f lo hi,min hi (fromV f lo hi+4),hi])
set_option maxHeartbeats 4000000 in
theorem Span_ok (f lo hi:Int) (hlh:lo≤hi) (h1 : -1000000≤lo) (h2:hi≤1000000):ACalls Try.prog 24 [.ptr 10000 0 0,I lo,I hi] [(10000,die f)] (fun r o=>r = .agg [I (spnD f lo hi).lo,I (spnD f lo hi).hi]∧o=[(10000,die (spnF f lo hi))]):=by
 have F:=Fx.nil
 replace F:=F.add hlh |>.add h1 |>.add h2
 refine ent Try.func24 Try.ntmps24 Try.results24 ?_
 obtain ⟨n,qn⟩:∃n,fromV f lo hi=n:=⟨_,rfl⟩
 obtain ⟨g,qg⟩:∃g,fromF f lo hi=g:=⟨_,rfl⟩
 have hn:=qn
 have hg2:=qg
 have qnr:lo≤n∧n≤hi:=by rw [←qn];exact fromV_range f hlh
 obtain ⟨m,qm⟩:∃m,m=min hi (n+4):=⟨_,rfl⟩
 have hm1:(if hi<n+4 then hi else n+4)=m:=by split<;>omega
 have hm2:(if n+4<hi then n+4 else hi)=m:=by split<;>omega
 have qmo:=oneV_mem g [n,m,hi] (by simp)
 simp only [List.mem_cons,List.not_mem_nil,or_false] at qmo
 obtain ⟨x,qx⟩:∃x,oneV g [n,m,hi]=x:=⟨_,rfl⟩
 obtain ⟨g2,qg2⟩:∃g2,oneF g [n,m,hi]=g2:=⟨_,rfl⟩
 have hx:=qx
 have hg3:=qg2
 have qxr:n≤x∧x≤hi:=by rw [←qx];omega
 replace F:=F.add hn |>.add hg2 |>.add hm1 |>.add hm2 |>.add hx |>.add hg3
 refine rK [0,1,2,6] ?_
 refine W.seqR ?_
 refine oN 3 ?_
 refine oC [(10000,10000)] ?_
 refine ct (From_ok _ _ _ (by omega) (by omega) (by omega) (by omega)) ?_
 refine oN 1 ?_
 refine oK [0,2,6,7] ?_
 refine W.seqR ?_
 refine oNw 8 ?_
 refine oC [(10000,10000)] ?_
 refine ct (One_ok g [n,m,hi] (by simp)) ?_
 refine oN 1 ?_
 refine oK [0,6,7,8] ?_
 refine W.seqR ?_
 refine oN 4 ?_
 refine oC [(10000,10000)] ?_
 refine ct (From_ok _ _ _ (by omega) (by omega) (by omega) (by omega)) ?_
 refine oN 2 ?_
 refine oK [6] ?_
 refine W.ret ?_
 refine er false [] [(10000,10000)] ?_
 have e1:spnD f lo hi=⟨n,fromV g2 n x⟩:=by rw [spnD,qn,qg,←qm,qx,qg2]
 have e2:spnF f lo hi=fromF g2 n x:=by rw [spnF,qn,qg,←qm,qx,qg2]
 rw [e1,e2];exact ⟨rfl,rfl⟩
end Go.Sim
