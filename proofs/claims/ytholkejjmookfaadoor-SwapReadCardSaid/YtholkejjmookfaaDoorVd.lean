/- Trades that a die makes. -/
import Derived.Test.YtholkejjmookfaaDoorVc
namespace Go.Sim.W6
open Go.Proofs
set_option maxRecDepth 100000
set_option linter.unusedSimpArgs false
set_option linter.unusedVariables false
attribute [-simp] List.map_set
def GoodTurns (l:List Turn):Prop:=l.Nodup∧∀x∈l,validT x=true
structure GoodTrade (ow:List Turn) (lk:List (List Turn)) (most:Nat):Prop where
  most:ow.length≤most
  same:lk.length=ow.length
  owns:GoodTurns ow
  likes:∀l∈lk,GoodTurns l∧l.length≤ow.length+2
theorem validT_cast {f g d:Int}(hd:1≤d∧d≤2):validT (castV f 8,castV g d)=true:=by
  have h1:=castV_lo f 8
  have h2:=castV_hi f 8 (by omega)
  have h3:=castV_lo g d
  have h4:=castV_hi g d (by omega)
  simp only [validT,Bool.and_eq_true,decide_eq_true_eq];omega
theorem GoodTurns.snoc {l:List Turn}{x:Turn}(h:GoodTurns l) (hx:x ∉ l) (hv:validT x=true):GoodTurns (l++[x]):=by
  refine ⟨?_,fun y hy=>?_⟩
  · rw [List.nodup_append]
    exact ⟨h.1,by simp,fun a ha b hb=>by simp at hb;subst hb;exact fun e=>hx (e▸ha)⟩
  · rcases List.mem_append.1 hy with hy | hy
    · exact h.2 y hy
    · simp at hy;subst hy;exact hv
theorem GoodTurns.nil:GoodTurns []:=⟨List.nodup_nil,fun x hx=>by simp at hx⟩
theorem map_nth_range {α:Type} [NthD α] (l:List α):(List.range l.length).map (nth l)=l:=by
  refine List.ext_getElem (by simp) fun i h1 h2=>?_
  simp [nth_get h2]
theorem Order.pick {α:Type} [NthD α] {l:List Int}{ow:List α}(h:Order l ow.length):(l.map fun k=>nth ow k.toNat).Perm ow:=by
  have h1:=List.Perm.map (fun k:Int=>nth ow k.toNat) h
  rw [List.map_map] at h1
  have h2:(List.range ow.length).map ((fun k:Int=>nth ow k.toNat)∘Int.ofNat)=ow:=by
    conv=>rhs;rw [←map_nth_range ow]
    rfl
  rwa [h2] at h1
theorem on_own (d:Int) (l:List Int) (hll:l.length≤1000000):ACalls Tryd.prog 14 [I d,ints l] [] (fun r o=>r = .own 20000 0 l.length∧o=[(20000,.row true 53 2 (l.map fun s=>T (s,d)))]):=by
 have F:=Fx.nil
 refine ent Tryd.func14 Tryd.ntmps14 Tryd.results14 ?_
 refine rK [0,1] ?_
 refine rK [0,1,5] ?_
 refine W.seqk fun K1 hK1=>?_
 refine rK [0,1,5,6] ?_
 refine W.block ?_
 refine sn 5 9000 53 2 ?_
 refine lpa (α:=Nat) [0,1] [9,20,21] [9000] (fun i=>[(6,I i),(5,.own 9000 0 i)]) (fun i=>[(9000,.row true 53 2 (((l.take i).map fun s=>(s,d)).map T))]) (fun i=>i≤l.length) (fun i=>l.length-i) 0 v0 ?_
 ·
  intro i hI0
  simp only [List.cons_append,List.nil_append]
  try dsimp only at hI0
  replace F:=F.add hI0
  refine W.seqk fun K2 hK2=>?_
  refine rK [0,1,5,6,10] ?_
  refine it (fun hc1=>?_) (fun hc1=>?_)
  ·
   try simp at hc1
   replace F:=F.add hc1
   refine W.skip ?_
   refine hK2 _ ?_
   clear hK2 K2
   refine W.seqk fun K3 hK3=>?_
   refine W.block ?_
   refine rEw ?_
   refine hK3 _ ?_
   clear hK3 K3
   refine rEw ?_
   refine ⟨i+1,lf ?_ ?_,v0,v0⟩
   ·
    exact v1
   ·
    try (simp [Fx.get F])
    all_goals (
     exact take_snoc (T∘fun s:Int=>(s,d)) hc1
    )
  ·
   try simp at hc1
   replace F:=F.add hc1
   refine W.exit ?_
   refine hK1 _ ?_
   clear hK2 K2 hK1 K1
   refine rK [4] ?_
   refine W.ret ?_
   refine er false [] [(20000,9000)] ?_
   rw [show i=l.length from by omega,List.take_of_length_le (by simp)];exact ⟨rfl,by simp [Function.comp_def]⟩
def rowOw:List Turn:=[(0,0),(1,0),(2,0),(3,0)]
def rowLk:List (List Turn):=[[(1,0),(2,0)],[(0,0)],[(0,0),(1,0)],[(2,0),(3,0),(0,0)]]
theorem row_ok  : ACalls Tryd.prog 11 [] [] (fun r o=>r=trade rowOw rowLk∧o=[]):=by
 have F:=Fx.nil
 refine ent Tryd.func11 Tryd.ntmps11 Tryd.results11 ?_
 refine rK [0] ?_
 refine W.seqR ?_
 refine oN 1 ?_
 refine oC [] ?_
 refine ct (on_own 0 [0,1,2,3] (by simp)) ?_
 refine oN 1 ?_
 refine oC [] ?_
 refine ct (on_own 0 [1,2] (by simp)) ?_
 refine oN 1 ?_
 refine oC [] ?_
 refine ct (on_own 0 [0] (by simp)) ?_
 refine oN 1 ?_
 refine oC [] ?_
 refine ct (on_own 0 [0,1] (by simp)) ?_
 refine oN 1 ?_
 refine oC [] ?_
 refine ct (on_own 0 [2,3,0] (by simp)) ?_
 refine oN 3 ?_
 refine oK [0] ?_
 refine W.ret ?_
 refine er false [16,88] [] ?_
 exact ⟨rfl,rfl⟩
end Go.Sim.W6
