/- Lettings that are copied and compared. -/
import Derived.Test.YtadlbdekaehipaaDoorLd
namespace Go.Sim
open Go.Proofs
set_option maxRecDepth 100000
set_option linter.unusedSimpArgs false
set_option linter.unusedVariables false
attribute [-simp] List.map_set List.map_take List.map_drop
def E2 (x:Int×Int):AV:=.agg [I x.1,I x.2]
theorem E2_def (x:Int×Int):E2 x = .agg [I x.1,I x.2]:=rfl
theorem pair_beq (a b:Int×Int):(a.1==b.1&&a.2==b.2)=(a==b):=rfl
abbrev envs (l:List (Int×Int)):AV:=.imm (l.map E2)
attribute [simp] E2_def pair_beq
set_option maxHeartbeats 4000000 in
theorem SameEnvies_ok (a b:List (Int×Int)):ACalls Tryd.prog 15 [envs a,envs b] [] (fun r o=>r=B (decide (a=b))∧o=[]):=by
 refine ACalls.len (l:=a.map E2) (by simp) ⟨_,Tryd.func15,by kernel_rfl,by kernel_rfl⟩ fun ha=>?_
 simp [maxLen_val] at ha
 have F:=Fx.nil
 refine ent Tryd.func15 Tryd.ntmps15 Tryd.results15 ?_
 refine rK [0,1] ?_
 refine rK [0,1,5] ?_
 refine W.seqk fun K1 hK1=>?_
 refine rK [0,1,5,6] ?_
 refine W.block ?_
 refine lp (α:=Nat) [0,1] [16] [] (fun i=>[(5,B (decide (a.length=b.length∧a.take i=b.take i))),(6,I i)]) (fun i=>[]) (fun i=>i≤a.length) (fun i=>a.length-i) 0 ?_ ?_ v0 ?_
 ·
  try (simp [Fx.get F])
  all_goals (
   exact same_init _ _
  )
 ·
  exact v1
 ·
  intro i hI0
  simp only [List.cons_append,List.nil_append]
  try dsimp only at hI0
  replace F:=F.add hI0
  refine W.seqk fun K2 hK2=>?_
  refine W.seqR ?_
  refine oN 2 ?_
  refine gX ?_
  refine gX ?_
  refine gX ?_
  refine gX ?_
  refine oN 1 ?_
  refine oK [0,1,5,6,18] ?_
  refine it (fun hc1=>?_) (fun hc1=>?_)
  ·
   try simp at hc1
   replace F:=F.add hc1
   refine W.skip ?_
   refine hK2 _ ?_
   clear hK2 K2
   refine W.seqk fun K3 hK3=>?_
   refine W.block ?_
   have hb:i<b.length:=by omega
   replace F:=F.add hb
   refine wDe 8 [] [[],[],[1,0],[0,1,2],[],[],[5,4],[4,5,6],[6,5,4,7,2,1,0,3],[3,0,1,2,7,4,5,6,8]] ?_
   refine dB [([22,25,26,27,28],[],[]),([21,25,26,27,28],[false],[]),([25,26,27,28],[true,true],[]),([25,26,27,28],[true,true,true],[]),([21,22,23,24,26],[false,false,false,false],[]),([21,22,23,24,25],[false,false,false,false,false],[]),([21,22,23,24],[false,false,false,false,true,true],[]),([21,22,23,24],[false,false,false,false,true,true,true],[])] 0 8 ?_
   refine dD ?_
   refine oN 2 ?_
   refine WOps.endK ?_
   refine hK3 _ ?_
   clear hK3 K3
   refine rEw ?_
   refine ⟨i+1,lf ?_ ?_,v0,v0⟩
   ·
    try (simp [Fx.get F])
    all_goals (
     first | exact same_step hc1 _ hb | exact take_step _ hb hc1.1.2
    )
   ·
    exact v1
  ·
   try simp at hc1
   replace F:=F.add hc1
   refine W.exit ?_
   refine hK1 _ ?_
   clear hK2 K2 hK1 K1
   refine rK [4] ?_
   refine W.ret ?_
   refine er false [] [] ?_
   exact ⟨by rw [same_end' hc1 hI0],rfl⟩
end Go.Sim
