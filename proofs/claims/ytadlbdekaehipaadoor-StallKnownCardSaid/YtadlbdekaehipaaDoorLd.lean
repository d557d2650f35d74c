/- The place of a stall among the wishes of an applicant that can have it. -/
import Derived.Test.YtadlbdekaehipaaDoorLc
namespace Go.Sim
open Go.Proofs
set_option maxRecDepth 100000
set_option linter.unusedSimpArgs false
set_option linter.unusedVariables false
attribute [-simp] List.map_set List.map_take List.map_drop
instance:NthD Nat:=⟨0⟩
def canS (st:List Stl) (a:App) (s:Int):Bool:=decide (s∈a.wishes)&&canAt st a (a.wishes.idxOf s)
def wishP (st:List Stl) (a:App) (s:Int):Int:=if canS st a s=true then a.wishes.idxOf s else -1
theorem wishL_mem {st:List Stl}{a:App}{k:Nat}(h:k<(wishL st a).length):∃i,∃h' : i<a.wishes.length,canAt st a i=true∧(wishL st a)[k]=(i,a.wishes[i]):=by
  have h1:(wishL st a)[k]∈wishL st a:=List.getElem_mem h
  obtain ⟨i,h2,h3⟩:=List.mem_map.1 h1
  obtain ⟨h4,h5⟩:=List.mem_filter.1 h2
  exact ⟨i,List.mem_range.1 h4,h5,by rw [←h3,nth_get (List.mem_range.1 h4)]⟩
theorem idxOf_nodup {l:List Int}(hd:l.Nodup){i:Nat}(h:i<l.length):l.idxOf l[i]=i:=hd.idxOf_getElem i h
theorem wishP_hit {st:List Stl}{a:App}(hd:a.wishes.Nodup){k:Nat}{s:Int}(h:k<(wishL st a).length) (hs:(wishL st a)[k].2=s):wishP st a s=(wishL st a)[k].1:=by
  obtain ⟨i,h1,h2,h3⟩:=wishL_mem h
  rw [h3] at hs ⊢
  simp only at hs
  subst hs
  have e:=idxOf_nodup hd h1
  rw [wishP,canS,e,if_pos (by simp [h2])]
theorem wishP_miss {st:List Stl}{a:App}{s:Int}(h:∀k (h:k<(wishL st a).length),(wishL st a)[k].2≠s):wishP st a s = -1:=by
  rw [wishP,if_neg]
  intro hc
  simp only [canS,Bool.and_eq_true,decide_eq_true_eq] at hc
  have h1:=List.idxOf_lt_length_iff.2 hc.1
  obtain ⟨h2,h3⟩:=wishL_get h1 hc.2 rfl
  exact h _ h2 (by rw [h3];exact List.getElem_idxOf h1)
set_option maxHeartbeats 4000000 in
theorem wish_ok (l:Lett) (hv:ValidL l) (a:Nat) (ha:a<l.apps.length) (s:Int):ACalls Tryd.prog 19 [letV l,I a,I s] [] (fun r o=>r=I (wishP l.stalls l.apps[a] s)∧o=[]):=by
 have F:=Fx.nil
 replace F:=F.add ha
 refine ent (M:=outMode) Tryd.func19 Tryd.ntmps19 Tryd.results19 ?_
 refine rK (M:=outMode) [1,3,5,6,7,8,12,13] ?_
 refine W.seqk (M:=outMode) fun K1 hK1=>?_
 refine W.seqR (M:=outMode) ?_
 refine oN 2 ?_
 refine oC [] ?_
 refine ct (wishes_ok l a) ?_
 refine oK (M:=outMode) [5,6,7,8,11,12,13] ?_
 refine W.block (M:=outMode) ?_
 refine W.rangeS (by simp [ha];all_goals first | rfl | exact ⟨rfl,rfl⟩ | exact ⟨rfl,rfl,rfl⟩) [(10000,88),(10001,89)] [(10002,24),(10003,40),(10004,48)] rfl rfl rfl (by simp [ha];all_goals first | rfl | exact ⟨rfl,rfl⟩ | exact ⟨rfl,rfl,rfl⟩) rfl (by simp [ha];all_goals first | rfl | exact ⟨rfl,rfl⟩ | exact ⟨rfl,rfl,rfl⟩) (by simp [ha];all_goals first | rfl | exact ⟨rfl,rfl⟩ | exact ⟨rfl,rfl,rfl⟩) (by simp [ha];all_goals first | rfl | exact ⟨rfl,rfl⟩ | exact ⟨rfl,rfl,rfl⟩) (fun _=>[(10002,.row false 25 2 [letV l]),(10003,.row false 3 1 [I s]),(10004,.row false 3 1 [I 0])]) (by simp [ha];all_goals first | rfl | exact ⟨rfl,rfl⟩ | exact ⟨rfl,rfl,rfl⟩) [5,6] (by simp [ha];all_goals first | rfl | exact ⟨rfl,rfl⟩ | exact ⟨rfl,rfl,rfl⟩) (by simp [ha];all_goals first | rfl | exact ⟨rfl,rfl⟩ | exact ⟨rfl,rfl,rfl⟩) (by rfl) (wishL l.stalls l.apps[a]) (fun x=>[I x.1,I x.2]) (fun _=>rfl) (fun k=>decide ((nth (wishL l.stalls l.apps[a]) k).2=s)) .ret rfl (fun _ (_:Unit)=>True) (fun k _=>[(10002,.row false 25 2 [letV l]),(10003,.row false 3 1 [I s]),(10004,.row false 3 1 [I (nth (wishL l.stalls l.apps[a]) k).1])]) ?_ (fun lp J hy=>wishes1_ok l hv a ha lp J _ hy) 1000 (by decide) ?_ ?_
 ·
  intro k hk hbef
  replace F:=F.add hk
  refine W.norm (M:=anyMode) (by simp [ha,hk];rfl) ?_
  refine rK (M:=anyMode) [5,6,7,12,13] ?_
  refine rE (M:=anyMode) ?_
  refine ⟨rfl, ?_⟩
  refine W.block (M:=anyMode) ?_
  refine rK (M:=anyMode) [5,6,7,8,12,13,16] ?_
  refine it (M:=anyMode) (fun hc1=>?_) (fun hc1=>?_)
  ·
   try simp at hc1
   replace F:=F.add hc1
   refine rK (M:=anyMode) [6] ?_
   refine W.ret (M:=anyMode) ?_
   refine blockQ_r ?_
   refine RoundV.out (()) ?_ ?_ rfl (Le.fit (by simp [ha,hk,hc1];rfl) (by rfl) (by rfl) (by rfl) (by trivial) ?_)
   ·
    exact decide_eq_true (by rw [nth_get hk];exact hc1)
   ·
    trivial
   ·
    try (simp [Fx.get F])
    all_goals (
     rw [nth_get hk]
    )
  ·
   try simp at hc1
   replace F:=F.add hc1
   refine W.skip (M:=anyMode) ?_
   refine blockQ_n ?_
   refine RoundV.go ?_ (Le.fit (by simp [ha,hk,hc1];rfl) (by rfl) (by rfl) (by rfl) (by trivial) ?_)
   ·
    exact decide_eq_false (by rw [nth_get hk];exact hc1)
   ·
    exact v1
 ·
  intro hbef
  refine ⟨(by simp [ha];all_goals first | rfl | exact ⟨rfl,rfl⟩ | exact ⟨rfl,rfl,rfl⟩), ?_⟩
  refine Qnorm (by simp [ha];rfl) ?_
  refine hK1 _ ?_
  clear hK1 K1
  refine rK (M:=outMode) [6] ?_
  refine W.ret (M:=outMode) ?_
  refine er false [] [] ?_
  exact ⟨congrArg I (wishP_miss (fun k hk he=>by have:=hbef k hk;rw [nth_get hk,he] at this;simp at this)).symm,rfl⟩
 ·
  intro k hk hstop hbef _ hbx
  replace F:=F.add hk
  refine ⟨(by simp [ha,hk];all_goals first | rfl | exact ⟨rfl,rfl⟩ | exact ⟨rfl,rfl,rfl⟩), ?_⟩
  refine Qnorm (by simp [ha,hk];rfl) ?_
  refine br (tr ?_)
  clear hK1 K1
  refine er false [] [] ?_
  exact ⟨congrArg I (by rw [nth_get hk] at hstop ⊢;exact (wishP_hit (hv.ap _ (List.getElem_mem ha)).nodup hk (of_decide_eq_true hstop)).symm),rfl⟩
end Go.Sim
