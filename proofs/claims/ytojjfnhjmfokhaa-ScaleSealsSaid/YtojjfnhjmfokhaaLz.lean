/- Seals: the reference's plan, whole. -/
import Derived.Test.YtojjfnhjmfokhaaLx
namespace Go.Sim
open Go.Proofs
set_option maxRecDepth 100000
set_option linter.unusedSimpArgs false
set_option linter.unusedVariables false
attribute [-simp] List.map_set List.map_take List.map_drop
attribute [simp] spn_eta T2_def T2_isData
theorem rplans_ok (s:Sls) (hv:ValidS s):∀(k:Nat) (day:Int) (left:List Int) (done:List Tst),LeftR s left→0≤day→day+(k:Int)=s.days+1→done.length+4 * k≤100 →
    ACalls Try.prog 84 [slsV s,I day,ints left,tstV done] [] (fun r o=>r=optT (rplanF s k day left done)∧o=[])
  | 0,day,left,done,_,h0,hk,_=>plans_zero s day left done (by omega)
  | k+1,day,left,done,hl,h0,hk,hd=>plans_step s hv day left hl done (by omega) k (by omega) h0 fun left' done' h1 h2=>rplans_ok s hv k (day+1) left' done' h1 (by omega) (by omega) (by omega)
set_option maxHeartbeats 4000000 in
theorem rPlan_ok (s:Sls) (hl:s.lef.length≤1000) (he:s.eve.length≤1000):ACalls Try.prog 31 [slsV s] [] (fun r o=>r = .tup [tstV (rplanL s),I (rplanE s)]∧o=[]):=by
 have F:=Fx.nil
 refine ent Try.func31 Try.ntmps31 Try.results31 ?_
 refine rK [1] ?_
 refine W.seqk fun K1 hK1=>?_
 refine W.seqR ?_
 refine oN 1 ?_
 refine oC [] ?_
 refine ct (rseaC_ok s hl he) ?_
 refine oN 1 ?_
 refine oK [1,4] ?_
 refine rK [1,4,10] ?_
 refine it (fun hc1=>?_) (fun hc1=>?_)
 ·
  try simp at hc1
  replace F:=F.add hc1
  refine rK [2,3] ?_
  refine W.ret ?_
  refine tr ?_
  clear hK1 K1
  refine er true [] [] ?_
  first
  | exact ⟨by unfold rplanL rplanE;rw [if_neg hc1,if_pos hc1];rfl,rfl⟩
  | exact ⟨by unfold rplanL rplanE;rw [if_pos (by simpa using hc1),if_neg (by simpa using hc1),qX,hX];rfl,rfl⟩
  | exact ⟨by unfold rplanL rplanE;rw [if_pos (by simpa using hc1),if_neg (by simpa using hc1),qX,qx];rfl,rfl⟩
 ·
  try simp at hc1
  replace F:=F.add hc1
  refine W.skip ?_
  refine hK1 _ ?_
  clear hK1 K1
  have hv:ValidS s:=seaC_zero.1 (by simpa using hc1)
  have qd:=hv.days
  obtain ⟨X,qX⟩:∃X,rplanP s=X:=⟨_,rfl⟩
  have qp:=rplans_ok s hv (s.days+1).toNat 0 s.lef [] ⟨rfl,fun x hx=>by have:=hv.lef x hx;omega⟩ (by omega) (by omega) (by simp;omega)
  rw [show rplanF s (s.days+1).toNat 0 s.lef []=X from qX] at qp
  replace F:=F.add hv
  refine W.seqR ?_
  refine oN 3 ?_
  refine oC [] ?_
  refine ct (qp) ?_
  refine oN 5 ?_
  refine oK [5,6] ?_
  refine W.seqk fun K2 hK2=>?_
  by_cases hX:X=none
  ·
   replace F:=F.add hX
   refine rK [5,20] ?_
   refine cT ?_
   refine rK [2,3] ?_
   refine W.ret ?_
   refine tr ?_
   clear hK2 K2
   refine er true [] [] ?_
   first
   | exact ⟨by unfold rplanL rplanE;rw [if_neg hc1,if_pos hc1];rfl,rfl⟩
   | exact ⟨by unfold rplanL rplanE;rw [if_pos (by simpa using hc1),if_neg (by simpa using hc1),qX,hX];rfl,rfl⟩
   | exact ⟨by unfold rplanL rplanE;rw [if_pos (by simpa using hc1),if_neg (by simpa using hc1),qX,qx];rfl,rfl⟩
  ·
   replace F:=F.add hX
   obtain ⟨x,qx⟩:=Option.ne_none_iff_exists'.1 hX
   have hXx:=qx
   replace F:=F.add hXx
   refine rK [5,20] ?_
   refine cF ?_
   refine W.skip ?_
   refine hK2 _ ?_
   clear hK2 K2
   refine rK [2,3] ?_
   refine W.ret ?_
   refine er true [] [] ?_
   first
   | exact ⟨by unfold rplanL rplanE;rw [if_neg hc1,if_pos hc1];rfl,rfl⟩
   | exact ⟨by unfold rplanL rplanE;rw [if_pos (by simpa using hc1),if_neg (by simpa using hc1),qX,hX];rfl,rfl⟩
   | exact ⟨by unfold rplanL rplanE;rw [if_pos (by simpa using hc1),if_neg (by simpa using hc1),qX,qx];rfl,rfl⟩
end Go.Sim
