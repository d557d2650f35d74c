/- What blocks: the first group. -/
import Derived.Test.YtholkejjmookfaaDoorVj
namespace Go.Sim.W6
open Go.Proofs Go.Plain
set_option maxRecDepth 100000
set_option linter.unusedSimpArgs false
set_option linter.unusedVariables false
attribute [-simp] List.map_set List.map_take List.map_drop
attribute [local simp] take_map' drop_map'
def Vg (n many:Nat) (vals:List Value):Prop:=∃g:List Nat,vals=g.map natV∧g.length=many∧∀y∈g,y<n
theorem groups_call (n many:Nat) (hn8:n≤8) (hm0:0<many) (hm8:many≤8) (Z:List Value→Option (List (Nat×Obj))) (stop:List Nat→Bool) (hZ:∀g,(Z (g.map natV)).isSome=stop g) :
    ∀ (l : Nat) (J0 : Fgn) (JX : List Value → Fgn), (∀ vals, Vg n many vals → YieldOk Tryd.prog l J0 3 vals (fun t J' => (Z vals = none ∧ t = true ∧ J' = J0) ∨ ∃ oX, Z vals = some oX ∧ t = false ∧ J' = JX vals)) →
      ACalls Tryd.prog 49 (.yld 19999 :: [.ptr 10000 0 0,.ptr 10001 0 0]) ((19999,.ext l J0) :: [(10000,.row false 3 1 [I many]),(10001,.row false 3 1 [I n])]) (fun _ o=>o=(19999,.ext l (match (foundG n many stop).map (List.map natV) with | none=>J0 | some v=>JX v)) :: [(10000,.row false 3 1 [I many]),(10001,.row false 3 1 [I n])]):=by
  intro l J0 JX hy
  refine (groups1_ok n many stop l J0 (fun g=>JX (g.map natV)) hn8 hm0 (fun g h1 h2=>(hy (g.map natV) ⟨g,rfl,h1,h2⟩).mono fun t J' h=>?_) hm8).mono fun r o h=>?_
  · rcases h with ⟨h1,h2,h3⟩ | ⟨oX,h1,h2,h3⟩
    · have:stop g=false:=by rw [←hZ,h1];rfl
      rw [this];exact ⟨h2,h3⟩
    · have:stop g=true:=by rw [←hZ,h1];rfl
      rw [this];exact ⟨h2,h3⟩
  · rw [h];cases foundG n many stop<;>rfl
theorem val_natV:AV.val∘natV=nI:=rfl
attribute [local simp] val_natV
def unV (v:Value):Nat:=match v with | .int _ a=>a.toNat | _=>0
theorem unV_natV (g:List Nat):(g.map natV).map unV=g:=by
  rw [List.map_map]
  conv=>rhs;rw [←List.map_id g]
  exact List.map_congr_left fun x _=>by simp [unV,natV]
def Zb (ow:List Turn) (lk:List (List Turn)) (held:List Turn) (vals:List Value):Option (List (Nat×Obj)):=if blockG ow lk held (vals.map unV)=true then some [(20000,.row true 3 1 ((vals.map unV).map nI)),(11000,.row false 27 2 [trade ow lk]),(11001,.row false 24 1 [turns held]),(11002,.row false 22 1 [.own 20000 0 (vals.map unV).length]),(11003,.row false 31 1 [I 0])] else none
theorem Zb_some {ow:List Turn}{lk:List (List Turn)}{held:List Turn}{g:List Nat}(h:blockG ow lk held g=true):Zb ow lk held (g.map natV)=some [(20000,.row true 3 1 (g.map nI)),(11000,.row false 27 2 [trade ow lk]),(11001,.row false 24 1 [turns held]),(11002,.row false 22 1 [.own 20000 0 g.length]),(11003,.row false 31 1 [I 0])]:=by
  unfold Zb;rw [unV_natV,if_pos h]
theorem Zb_none {ow:List Turn}{lk:List (List Turn)}{held:List Turn}{g:List Nat}(h:blockG ow lk held g=false):Zb ow lk held (g.map natV)=none:=by
  unfold Zb;rw [unV_natV,if_neg (by simp [h])]
theorem Zb_isSome (ow:List Turn) (lk:List (List Turn)) (held:List Turn) (g:List Nat):(Zb ow lk held (g.map natV)).isSome=blockG ow lk held g:=by
  cases h:blockG ow lk held g with
  | true=>rw [Zb_some h];rfl
  | false=>rw [Zb_none h];rfl
def blockL (n:Nat) (stop:List Nat→Bool) (k:Nat):List Nat:=((List.range' k (n+1-k)).findSome? fun many=>foundG n many stop).getD []
def blocksT (ow:List Turn) (lk:List (List Turn)) (held:List Turn):List Nat:=if heldT ow lk held=0 then blockL ow.length (blockG ow lk held) 1 else []
theorem blockL_hit {n k:Nat}{stop:List Nat→Bool}{g:List Nat}(h:k≤n) (hg:foundG n k stop=some g):blockL n stop k=g:=by
  rw [blockL,range'_next (by omega:k<n+1),List.findSome?_cons,hg];rfl
theorem blockL_skip {n k:Nat}{stop:List Nat→Bool}(h:k≤n) (hg:foundG n k stop=none):blockL n stop k=blockL n stop (k+1):=by
  rw [blockL,range'_next (by omega:k<n+1),List.findSome?_cons,hg];rfl
theorem blockL_done {n k:Nat}{stop:List Nat→Bool}(h:n<k):blockL n stop k=[]:=by rw [blockL,range'_done (by omega)];rfl
set_option maxHeartbeats 4000000 in
theorem Blocks_ok (ow:List Turn) (lk:List (List Turn)) (held:List Turn) (hwf:ValidT ow lk→∀x∈held,WfT x):ACalls Tryd.prog 13 [trade ow lk,turns held] [] (fun r o=>r = .tup [rgV (blocksT ow lk held),I (heldT ow lk held)]∧o=[]):=by
 have F:=Fx.nil
 refine ent (M:=outMode) Tryd.func13 Tryd.ntmps13 Tryd.results13 ?_
 refine rK (M:=outMode) [2,3,4,5,8,27] ?_
 refine W.seqk (M:=outMode) fun K1 hK1=>?_
 refine W.seqR (M:=outMode) ?_
 refine oN 2 ?_
 refine oC [] ?_
 refine ct (W6.CheckHeld_ok _ _ _ (by assumption)) ?_
 refine oN 1 ?_
 refine oK (M:=outMode) [2,3,4,5,6,8,27] ?_
 refine rK (M:=outMode) [2,3,4,5,6,8,13,27] ?_
 refine it (M:=outMode) (fun hc1=>?_) (fun hc1=>?_)
 ·
  try simp at hc1
  replace F:=F.add hc1
  refine rK (M:=outMode) [4,5] ?_
  refine W.ret (M:=outMode) ?_
  refine tr ?_
  clear hK1 K1
  refine er true [] [] ?_
  exact ⟨by rw [blocksT,if_neg hc1];rfl,rfl⟩
 ·
  try simp at hc1
  replace F:=F.add hc1
  obtain ⟨hv,hh⟩:=heldT_valid (by simpa using hc1)
  have hn8:ow.length≤8:=hv.most
  have hz:heldT ow lk held=0:=by simpa using hc1
  replace F:=F.add hn8 |>.add hz
  refine W.skip (M:=outMode) ?_
  refine hK1 _ ?_
  clear hK1 K1
  refine W.seqk (M:=outMode) fun K2 hK2=>?_
  refine rK (M:=outMode) [2,3,4,5,7,8,27] ?_
  refine W.block (M:=outMode) ?_
  refine lpa (M:=outMode) (α:=Nat) [2,3,4,5,27] [18,24,26,31] [] (fun many=>[(7,I many)]) (fun many=>[]) (fun many=>1≤many∧many≤ow.length+1∧blockL ow.length (blockG ow lk held) 1=blockL ow.length (blockG ow lk held) many) (fun many=>ow.length+1-many) 1 v0 ?_
  ·
   intro many hI0
   simp only [List.cons_append,List.nil_append]
   try dsimp only at hI0
   obtain ⟨hm1,hmn,he⟩:=hI0
   replace F:=F.add hm1 |>.add hmn
   refine W.seqk (M:=outMode) fun K3 hK3=>?_
   refine rK (M:=outMode) [2,3,4,5,7,8,19,27] ?_
   refine it (M:=outMode) (fun hc2=>?_) (fun hc2=>?_)
   ·
    try simp at hc2
    replace F:=F.add hc2
    refine W.skip (M:=outMode) ?_
    refine hK3 _ ?_
    clear hK3 K3
    refine W.seqk (M:=outMode) fun K4 hK4=>?_
    refine W.block (M:=outMode) ?_
    refine W.seqR (M:=outMode) ?_
    refine oN 4 ?_
    refine oC [] ?_
    refine ct (W6.groups_ok _ _) ?_
    refine oK (M:=outMode) [2,3,4,5,7,8,26,27] ?_
    refine W.block (M:=outMode) ?_
    refine W.rangeFunc (by simp [hc1,hn8,hz,hm1,hmn,hc2];all_goals first | rfl | exact ⟨rfl,rfl⟩ | exact ⟨rfl,rfl,rfl⟩) [(10000,208),(10001,209)] [(11000,16),(11001,24),(11002,32),(11003,40)] rfl rfl rfl (by simp [hc1,hn8,hz,hm1,hmn,hc2];all_goals first | rfl | exact ⟨rfl,rfl⟩ | exact ⟨rfl,rfl,rfl⟩) rfl (by simp [hc1,hn8,hz,hm1,hmn,hc2];all_goals first | rfl | exact ⟨rfl,rfl⟩ | exact ⟨rfl,rfl,rfl⟩) (by simp [hc1,hn8,hz,hm1,hmn,hc2];all_goals first | rfl | exact ⟨rfl,rfl⟩ | exact ⟨rfl,rfl,rfl⟩) (by simp [hc1,hn8,hz,hm1,hmn,hc2];all_goals first | rfl | exact ⟨rfl,rfl⟩ | exact ⟨rfl,rfl,rfl⟩) (by simp [hc1,hn8,hz,hm1,hmn,hc2];all_goals first | rfl | exact ⟨rfl,rfl⟩ | exact ⟨rfl,rfl,rfl⟩) [2,3,4,5] (by simp [hc1,hn8,hz,hm1,hmn,hc2];all_goals first | rfl | exact ⟨rfl,rfl⟩ | exact ⟨rfl,rfl,rfl⟩) (by first | decide | (simp;done) | omega) (3) (Vg ow.length many) (Zb ow lk held) ?_ ((foundG ow.length many (blockG ow lk held)).map (List.map natV)) (groups_call ow.length many (by omega) (by omega) (by omega) _ (blockG ow lk held) (Zb_isSome ow lk held)) 27 (by decide) ?_ ?_
    ·
     intro vals hV
     obtain ⟨g,rfl,rfl,hgn⟩:=hV
     replace F:=F.add hgn
     refine W.norm (M:=anyMode) (by simp [hc1,hn8,hz,hm1,hmn,hc2,hgn];rfl) ?_
     refine rE (M:=anyMode) ?_
     refine ⟨rfl, ?_⟩
     refine W.block (M:=anyMode) ?_
     refine W.seqR (M:=anyMode) ?_
     refine oN 3 ?_
     refine oC [] ?_
     refine ct (blocks_ok ow lk held g hv hh hgn (by omega)) ?_
     refine oK (M:=anyMode) [2,3,4,5,7,8,27,31] ?_
     refine it (M:=anyMode) (fun hc3=>?_) (fun hc3=>?_)
     ·
      try simp at hc3
      replace F:=F.add hc3
      refine rK (M:=anyMode) [4,5] ?_
      refine W.ret (M:=anyMode) ?_
      refine blockQ_r ?_
      refine ⟨[(20000,.row true 3 1 (g.map nI)),(11000,.row false 27 2 [trade ow lk]),(11001,.row false 24 1 [turns held]),(11002,.row false 22 1 [.own 20000 0 g.length]),(11003,.row false 31 1 [I 0])], ?_,Le.fit (by simp [hc1,hn8,hz,hm1,hmn,hc2,hgn,hc3];rfl) (by rfl) (by rfl) (by rfl) (by trivial) ?_⟩
      ·
       exact Zb_some hc3
      ·
       exact v1
     ·
      try simp at hc3
      replace F:=F.add hc3
      refine W.skip (M:=anyMode) ?_
      refine blockQ_n ?_
      refine ⟨?_,Le.fit (by simp [hc1,hn8,hz,hm1,hmn,hc2,hgn,hc3];rfl) (by rfl) (by rfl) (by rfl) (by trivial) ?_⟩
      ·
       exact Zb_none hc3
      ·
       exact v1
    ·
     intro hres
     have hfg:foundG ow.length many (blockG ow lk held)=none:=by simpa using hres
     replace F:=F.add hfg
     refine ⟨(by simp [hc1,hn8,hz,hm1,hmn,hc2,hfg];all_goals first | rfl | exact ⟨rfl,rfl⟩ | exact ⟨rfl,rfl,rfl⟩), ?_⟩
     refine Qnorm (by simp [hc1,hn8,hz,hm1,hmn,hc2,hfg];rfl) ?_
     refine hK4 _ ?_
     clear hK4 K4
     refine rEw (M:=outMode) ?_
     refine ⟨many+1,lf0, ?_,v0⟩
     ·
      exact ⟨by omega,by omega,by rw [he,blockL_skip hc2 hfg]⟩
    ·
     intro vx hres
     obtain ⟨g,qfg,rfl⟩:=Option.map_eq_some_iff.1 hres
     have hbg:blockG ow lk held g=true:=by have:=List.find?_some qfg;simpa using this
     replace F:=F.add hbg
     refine ⟨[(20000,.row true 3 1 (g.map nI)),(11000,.row false 27 2 [trade ow lk]),(11001,.row false 24 1 [turns held]),(11002,.row false 22 1 [.own 20000 0 g.length]),(11003,.row false 31 1 [I 0])], ?_,(by simp [hc1,hn8,hz,hm1,hmn,hc2,hbg];all_goals first | rfl | exact ⟨rfl,rfl⟩ | exact ⟨rfl,rfl,rfl⟩), ?_⟩
     ·
      exact Zb_some hbg
     ·
      refine Qnorm (by simp [hc1,hn8,hz,hm1,hmn,hc2,hbg];rfl) ?_
      refine br (br (tr (tr (br (tr ?_)))))
      clear hK4 K4 hK2 K2
      refine er true [216] [] ?_
      exact ⟨by rw [blocksT,if_pos hz,he,blockL_hit hc2 qfg,hz],rfl⟩
   ·
    try simp at hc2
    replace F:=F.add hc2
    refine W.exit (M:=outMode) ?_
    refine hK2 _ ?_
    clear hK3 K3 hK2 K2
    refine rK (M:=outMode) [4,5] ?_
    refine W.ret (M:=outMode) ?_
    refine er true [] [] ?_
    exact ⟨by rw [blocksT,if_pos hz,he,blockL_done hc2,hz];rfl,rfl⟩
end Go.Sim.W6
