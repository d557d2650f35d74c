/- The program's rings and swap. -/
import Derived.Test.YtholkejjmookfaaDoorVe
import Derived.Test.YtholkejjmookfaaDoorRb
namespace Go.Sim.W6
open Go.Proofs Go.Plain
set_option maxRecDepth 100000
set_option linter.unusedSimpArgs false
set_option linter.unusedVariables false
attribute [-simp] List.map_set List.map_take List.map_drop
attribute [local simp] take_map' drop_map'
abbrev shI:Value:=.int .i64 0
def ptL (ow:List Turn) (L:List Nat) (i:Nat) (own:Turn):List Turn→Nat
  | []=>i
  | x :: r=>if x=own then i else if x∈ow∧ow.idxOf x∈L then ow.idxOf x else ptL ow L i own r
theorem ptL_at {ow:List Turn}{L:List Nat}{i:Nat}{own:Turn}{l:List Turn}{k:Nat}(h:k<l.length):ptL ow L i own (l.drop k)=if l[k]=own then i else if l[k]∈ow∧ow.idxOf l[k]∈L then ow.idxOf l[k] else ptL ow L i own (l.drop (k+1)):=by
  rw [List.drop_eq_getElem_cons h,ptL]
theorem points_ok (ow:List Turn) (lk:List (List Turn)) (L:List Nat) (i:Nat) (hi:i<ow.length) (hk:i<lk.length) (ho:ow.length≤8) (hv:∀x∈lk[i],validT x=true) (h16:lk[i].length≤16):ACalls Tryd.prog 48 [trade ow lk,.map 10000,.map 10001,I i] [(10000,.mp true shT (ownE ow)),(10001,.mp true shI (leftE L))] (fun r o=>r=I (ptL ow L i ow[i] lk[i]:Nat)∧o=[(10000,.mp true shT (ownE ow)),(10001,.mp true shI (leftE L))]):=by
 have F:=Fx.nil
 replace F:=F.add hi |>.add hk
 refine ent Tryd.func48 Tryd.ntmps48 Tryd.results48 ?_
 refine rK [1,2,3,4] ?_
 refine W.seqk fun K1 hK1=>?_
 refine rK [1,2,3,4,17,18,19] ?_
 refine W.block ?_
 refine lpa (α:=Nat) [1,2,3,4,17,18] [10] [] (fun k=>[(19,I k)]) (fun k=>[]) (fun k=>k≤lk[i].length∧ptL ow L i ow[i] lk[i]=ptL ow L i ow[i] (lk[i].drop k)) (fun k=>lk[i].length-k) 0 v0 ?_
 ·
  intro k hI0
  simp only [List.cons_append,List.nil_append]
  try dsimp only at hI0
  obtain ⟨hkl,he⟩:=hI0
  replace F:=F.add hkl
  refine rK [1,2,3,4,17,18,19,20] ?_
  refine W.seqk fun K2 hK2=>?_
  refine it (fun hc1=>?_) (fun hc1=>?_)
  ·
   try simp at hc1
   replace F:=F.add hc1
   refine W.skip ?_
   refine hK2 _ ?_
   clear hK2 K2
   refine W.seqk fun K3 hK3=>?_
   refine W.block ?_
   refine rK [1,2,3,4,10,17,18,19] ?_
   refine W.seqk fun K4 hK4=>?_
   refine wD 6 [] [[],[],[1],[],[3,1,2],[2,1,3,4],[4,3,1,2,5,0]] ?_
   refine dB [([24,25,26,27,28],[],[]),([23,26],[false],[]),([23,26],[false,true],[]),([23,24,25],[false,false,false],[]),([23],[false,true,true,true],[]),([23],[false,true,true,true,true],[])] 0 6 ?_
   refine dD ?_
   refine oN 1 ?_
   refine oK [1,2,3,4,10,17,18,19,29] ?_
   refine it (fun hc2=>?_) (fun hc2=>?_)
   ·
    try simp at hc2
    replace F:=F.add hc2
    refine W.exit ?_
    refine hK1 _ ?_
    clear hK4 K4 hK3 K3 hK1 K1
    refine rK [8] ?_
    refine W.ret ?_
    refine er false [] [(10000,10000),(10001,10001)] ?_
    refine ⟨congrArg (fun n:Nat=>I (n:Int)) ?_,rfl⟩
    rw [he,ptL_at hc1,if_pos hc2]
   ·
    try simp at hc2
    replace F:=F.add hc2
    refine W.skip ?_
    refine hK4 _ ?_
    clear hK4 K4
    by_cases hmem:lk[i][k]∈ow
    ·
     replace F:=F.add hmem
     have hix:ow.idxOf lk[i][k]<ow.length:=List.idxOf_lt_length_iff.2 hmem
     have hw3:(Lit.int .i64 ((ow.idxOf lk[i][k]:Nat):Int)).wf=true:=wfI (by omega) (by omega)
     have hgl:getM (.int .i64 ((ow.idxOf lk[i][k]:Nat):Int)) (leftE L)=if ow.idxOf lk[i][k]∈L then some (B true) else none:=getM_left _ L
     replace F:=F.add hix |>.add hw3 |>.add hgl
     have hr:=validT_range (hv _ (List.getElem_mem hc1))
     have hw1:(Lit.int .i64 lk[i][k].1).wf=true:=wfI (by omega) (by omega)
     have hw2:(Lit.int .i64 lk[i][k].2).wf=true:=wfI (by omega) (by omega)
     have hgm:getM (.agg #[.int .i64 lk[i][k].1,.int .i64 lk[i][k].2]) (ownEk 0 ow)=if lk[i][k]∈ow then some (I ((0+ow.idxOf lk[i][k]:Nat):Int)) else none:=getM_own lk[i][k] ow 0
     replace F:=F.add hr |>.add hw1 |>.add hw2 |>.add hgm
     refine rK [1,2,3,4,11,12,17,18,19] ?_
     by_cases hL:ow.idxOf lk[i][k]∈L
     ·
      replace F:=F.add hL
      refine W.seqR ?_
      refine oN 2 ?_
      refine gT ?_
      refine gT ?_
      refine gT ?_
      refine oN 1 ?_
      refine oK [1,2,3,4,11,17,18,19,41] ?_
      refine cT ?_
      refine rK [8] ?_
      refine W.ret ?_
      refine br (tr (tr (br (tr ?_))))
      clear hK3 K3 hK1 K1
      refine er false [] [(10000,10000),(10001,10001)] ?_
      refine ⟨congrArg (fun n:Nat=>I (n:Int)) ?_,rfl⟩
      rw [he,ptL_at hc1,if_neg hc2,if_pos ⟨hmem,hL⟩]
     ·
      replace F:=F.add hL
      refine W.seqR ?_
      refine oN 2 ?_
      refine gT ?_
      refine gT ?_
      refine gT ?_
      refine oN 1 ?_
      refine oK [1,2,3,4,11,17,18,19,41] ?_
      refine cF ?_
      refine W.skip ?_
      refine hK3 _ ?_
      clear hK3 K3
      refine rEw ?_
      refine ⟨k+1,lf0, ?_,v0⟩
      ·
       exact ⟨by omega,by rw [he,ptL_at hc1,if_neg hc2,if_neg (by simp_all)]⟩
    ·
     replace F:=F.add hmem
     have hr:=validT_range (hv _ (List.getElem_mem hc1))
     have hw1:(Lit.int .i64 lk[i][k].1).wf=true:=wfI (by omega) (by omega)
     have hw2:(Lit.int .i64 lk[i][k].2).wf=true:=wfI (by omega) (by omega)
     have hgm:getM (.agg #[.int .i64 lk[i][k].1,.int .i64 lk[i][k].2]) (ownEk 0 ow)=if lk[i][k]∈ow then some (I ((0+ow.idxOf lk[i][k]:Nat):Int)) else none:=getM_own lk[i][k] ow 0
     replace F:=F.add hr |>.add hw1 |>.add hw2 |>.add hgm
     refine rK [1,2,3,4,11,12,17,18,19] ?_
     refine W.seqR ?_
     refine oN 2 ?_
     refine gF ?_
     refine gF ?_
     refine gF ?_
     refine oN 1 ?_
     refine oK [1,2,3,4,11,17,18,19,41] ?_
     refine cF ?_
     refine W.skip ?_
     refine hK3 _ ?_
     clear hK3 K3
     refine rEw ?_
     refine ⟨k+1,lf0, ?_,v0⟩
     ·
      exact ⟨by omega,by rw [he,ptL_at hc1,if_neg hc2,if_neg (by simp_all)]⟩
  ·
   try simp at hc1
   replace F:=F.add hc1
   refine W.exit ?_
   refine hK1 _ ?_
   clear hK2 K2 hK1 K1
   refine rK [8] ?_
   refine W.ret ?_
   refine er false [] [(10000,10000),(10001,10001)] ?_
   refine ⟨congrArg (fun n:Nat=>I (n:Int)) ?_,rfl⟩
   rw [he,List.drop_of_length_le hc1];rfl
def nI (n:Nat):AV:=I (n:Int)
theorem nI_def (n:Nat):nI n=I (n:Int):=rfl
attribute [simp] nI_def
abbrev rgV (l:List Nat):AV:=.imm (l.map nI)
abbrev tabsN (l:List (List Nat)):AV:=.imm (l.map rgV)
theorem map_nI (l:List Nat):l.map nI=(l.map fun (n:Nat)=>(n:Int)).map I:=by simp [Function.comp_def]
theorem ContainsN_ok (l:List Nat) (n:Nat):ACalls Tryd.prog 39 [.imm (l.map nI),I (n:Int)] [] (fun r o=>r=B (decide (n∈l))∧o=[]):=by
  have h:=ContainsI_ok (l.map fun (n:Nat)=>(n:Int)) n
  have e:decide ((n:Int)∈l.map fun (n:Nat)=>(n:Int))=decide (n∈l):=by
    rw [decide_eq_decide];simp
    exact ⟨fun ⟨a,h,e⟩=>by rwa [Int.ofNat.inj e] at h,fun h=>⟨n,h,rfl⟩⟩
  rw [e] at h
  rw [map_nI];exact h
def ptF (ow:List Turn) (lk:List (List Turn)) (L:List Nat) (i:Nat):Nat:=ptL ow L i (nth ow i) (nth lk i)
theorem ptL_mem {ow:List Turn}{L:List Nat}{i:Nat}(hi:i∈L){own:Turn}:∀ {l:List Turn},ptL ow L i own l∈L
  | []=>hi
  | x :: r => by
    rw [ptL]
    split
    · exact hi
    · split
      · rename_i h;exact h.2
      · exact ptL_mem hi
theorem ptF_closed (ow:List Turn) (lk:List (List Turn)) (L:List Nat):Closed (ptF ow lk L) L:=fun _ hi=>ptL_mem hi
theorem ptF_eq {ow:List Turn}{lk:List (List Turn)}{L:List Nat}{i:Nat}(h1:i<ow.length) (h2:i<lk.length):ptL ow L i ow[i] lk[i]=ptF ow lk L i:=by rw [ptF,nth_get h1,nth_get h2]
theorem points_ok' (ow:List Turn) (lk:List (List Turn)) (L:List Nat) (i:Nat) (hv:ValidT ow lk) (hi:i<ow.length):ACalls Tryd.prog 48 [trade ow lk,.map 10000,.map 10001,I i] [(10000,.mp true shT (ownE ow)),(10001,.mp true shI (leftE L))] (fun r o=>r=I (ptF ow lk L i:Nat)∧o=[(10000,.mp true shT (ownE ow)),(10001,.mp true shI (leftE L))]):=by
  have hk:i<lk.length:=by rw [hv.same];exact hi
  have:=points_ok ow lk L i hi hk hv.most (hv.likes _ (List.getElem_mem hk)).1.2 (hv.likes _ (List.getElem_mem hk)).2
  rwa [ptF_eq hi hk] at this
def rnd (ow:List Turn) (lk:List (List Turn)) (L:List Nat) (i:Nat):List (List Nat):=(List.range i).filterMap fun i=>if i∈L then ringP (ptF ow lk L) ow.length i else none
theorem rnd_out {ow:List Turn}{lk:List (List Turn)}{L:List Nat}{i:Nat}(h:i ∉ L):rnd ow lk L (i+1)=rnd ow lk L i:=by
  simp [rnd,List.range_succ,h]
theorem rnd_none {ow:List Turn}{lk:List (List Turn)}{L:List Nat}{i:Nat}(h:ringP (ptF ow lk L) ow.length i=none):rnd ow lk L (i+1)=rnd ow lk L i:=by
  simp [rnd,List.range_succ,h]
theorem rnd_some {ow:List Turn}{lk:List (List Turn)}{L:List Nat}{i:Nat}{r:List Nat}(hi:i∈L) (h:ringP (ptF ow lk L) ow.length i=some r):rnd ow lk L (i+1)=rnd ow lk L i++[r]:=by
  simp [rnd,List.range_succ,hi,h]
theorem rnd_length (ow:List Turn) (lk:List (List Turn)) (L:List Nat) (i:Nat):(rnd ow lk L i).length≤i:=by
  have:=List.length_filterMap_le (fun i=>if i∈L then ringP (ptF ow lk L) ow.length i else none) (List.range i)
  simpa [rnd] using this
theorem rnd_mem {ow:List Turn}{lk:List (List Turn)}{L:List Nat}(hd:L.Nodup) (hL:∀y∈L,y<ow.length){r:List Nat}(hr:r∈rnd ow lk L ow.length):∀x∈r,x∈L:=by
  obtain ⟨m,hm,h⟩:=(mem_roundF (ptF_closed ow lk L) (le_of_nodup_lt hd hL) hL).1 (show r∈roundF (ptF ow lk L) L ow.length from hr)
  exact (h.mem (ptF_closed ow lk L) hm).1
theorem rnd_step {ow:List Turn}{lk:List (List Turn)}{L:List Nat}(hd:L.Nodup) (hL:∀y∈L,y<ow.length) (hne:0<L.length):(eraseAll (rnd ow lk L ow.length).flatten L).length<L.length:=
  round_lt (ptF_closed ow lk L) hd hL (by intro h;simp [h] at hne) (le_of_nodup_lt hd hL)
theorem rings_next {ow:List Turn}{lk:List (List Turn)}{L:List Nat}(hd:L.Nodup) (hL:∀y∈L,y<ow.length) (hne:0<L.length):ringsF (ptF ow lk) ow.length L.length L=rnd ow lk L ow.length++ringsF (ptF ow lk) ow.length (eraseAll (rnd ow lk L ow.length).flatten L).length (eraseAll (rnd ow lk L ow.length).flatten L):=by
  have hlt:=rnd_step (lk:=lk) hd hL hne
  obtain ⟨k,hk⟩:∃k,L.length=k+1:=⟨L.length-1,by omega⟩
  have hd':=eraseAll_nodup (l:=(rnd ow lk L ow.length).flatten) hd
  have hL' : ∀y∈eraseAll (rnd ow lk L ow.length).flatten L,y<ow.length:=fun y hy=>hL y ((eraseAll_sub _ _).subset hy)
  rw [ringsF_fuel (ptF_closed ow lk) (a:=(eraseAll (rnd ow lk L ow.length).flatten L).length) (b:=k) hd' hL' (Nat.le_refl _) (by omega),hk,ringsF,if_neg (by intro h;simp [h] at hne)]
  rfl
theorem rnd_ring_le {ow:List Turn}{lk:List (List Turn)}{L:List Nat}(hd:L.Nodup) (hL:∀y∈L,y<ow.length){r:List Nat}(hr:r∈rnd ow lk L ow.length):r.length≤ow.length:=by
  obtain ⟨m,hm,k,hF,_,e⟩:=(mem_roundF (ptF_closed ow lk L) (le_of_nodup_lt hd hL) hL).1 (show r∈roundF (ptF ow lk L) L ow.length from hr)
  rw [e,orb_length]
  exact Nat.le_trans (hF.le (ptF_closed ow lk L) hm) (le_of_nodup_lt hd hL)
theorem goP_stop {f:Nat→Nat}{i n a:Nat}{ring:List Nat}(hn:ring.length≤n) (h:a≠i) (h2:a<i∨a∈ring):goP f i (n+1-ring.length) ring a=none:=by
  rw [show n+1-ring.length=(n-ring.length)+1 by omega,goP,if_neg h,if_pos h2]
theorem goP_end {f:Nat→Nat}{i n:Nat}{ring:List Nat}(hn:ring.length≤n):goP f i (n+1-ring.length) ring i=some ring:=by
  rw [show n+1-ring.length=(n-ring.length)+1 by omega,goP,if_pos rfl]
theorem goP_on {f:Nat→Nat}{i n a:Nat}{ring:List Nat}(hn:ring.length≤n) (h:a≠i) (h2:¬(a<i∨a∈ring)):goP f i (n+1-ring.length) ring a=goP f i (n+1-(ring++[a]).length) (ring++[a]) (f a):=by
  rw [show n+1-ring.length=(n-ring.length)+1 by omega,goP,if_neg h,if_neg h2,List.length_append]
  congr 1;simp
attribute [local simp] leftE_length
theorem rings_ok (ow:List Turn) (lk:List (List Turn)) (hv:ValidT ow lk):ACalls Tryd.prog 32 [trade ow lk] [] (fun r o=>r=tabsN (allRings (ptF ow lk) ow.length)∧o=[]):=by
 have F:=Fx.nil
 refine ent Tryd.func32 Tryd.ntmps32 Tryd.results32 ?_
 have hn8:ow.length≤8:=hv.most
 replace F:=F.add hn8
 refine rK [1] ?_
 refine W.seqR ?_
 refine oN 1 ?_
 refine oC [] ?_
 refine ct (owners_ok ow lk hv.owns hv.most) ?_
 refine oN 1 ?_
 refine oK [1,3] ?_
 refine rK [1,3,4] ?_
 refine W.seqk fun K1 hK1=>?_
 refine rK [1,3,4,20,21] ?_
 refine W.block ?_
 refine lp (α:=Nat) [1,3,4,20] [] [136] (fun k=>[(21,I k)]) (fun k=>[(136,.mp true shI (leftE (List.range k)))]) (fun k=>k≤ow.length) (fun k=>ow.length-k) 0 ?_ ?_ v0 ?_
 ·
  exact v1
 ·
  try (simp [Fx.get F])
  all_goals (
   rfl
  )
 ·
  intro k hI0
  simp only [List.cons_append,List.nil_append]
  try dsimp only at hI0
  replace F:=F.add hI0
  refine rK [1,3,4,20,21,22] ?_
  refine W.seqk fun K2 hK2=>?_
  refine it (fun hc1=>?_) (fun hc1=>?_)
  ·
   try simp at hc1
   replace F:=F.add hc1
   refine W.skip ?_
   refine hK2 _ ?_
   clear hK2 K2
   refine W.seqk fun K3 hK3=>?_
   refine W.block ?_
   refine rK [1,3,4,5,20,21] ?_
   have hw:(Lit.int .i64 (k:Int)).wf=true:=wfI (by omega) (by omega)
   have hset:setM (.int .i64 (k:Int)) (B true) (leftE (List.range k))=leftE (List.range (k+1)):=by
     rw [setM_left (by simp),List.range_succ]
   replace F:=F.add hw |>.add hset
   refine rEw ?_
   refine hK3 _ ?_
   clear hK3 K3
   refine rEw ?_
   refine ⟨k+1,lf0,v0,v0⟩
  ·
   try simp at hc1
   replace F:=F.add hc1
   refine W.exit ?_
   refine hK1 _ ?_
   clear hK2 K2 hK1 K1
   refine rK [1,3,4,6] ?_
   refine W.seqk fun K4 hK4=>?_
   refine W.block ?_
   refine sn 6 9000 22 1 ?_
   refine lp (α:=List (List Nat)×List Nat) [1,3,4] [28,32,41,46,54,61,65,66,69,70,73,79,90] [9000,136] (fun x=>[(6,.own 9000 0 x.1.length)]) (fun x=>[(9000,.row true 22 1 (x.1.map rgV)),(136,.mp true shI (leftE x.2))]) (fun x=>x.2.Nodup∧(∀y∈x.2,y<ow.length)∧allRings (ptF ow lk) ow.length=x.1++ringsF (ptF ow lk) ow.length x.2.length x.2∧x.1.length+8 * x.2.length≤64) (fun x=>x.2.length) ([],List.range ow.length) ?_ ?_ ?_ ?_
   ·
    exact v1
   ·
    try (simp [Fx.get F])
    all_goals (
     obtain rfl:k=ow.length:=by omega
     rfl
    )
   ·
    exact ⟨List.nodup_range,fun y hy=>List.mem_range.1 hy,by simp [allRings],by simp;omega⟩
   ·
    intro ⟨out,L⟩ hI1
    simp only [List.cons_append,List.nil_append]
    try dsimp only at hI1
    obtain ⟨hd,hL,hr,h64⟩:=hI1
    refine W.seqk fun K5 hK5=>?_
    refine rK [1,3,4,6,29] ?_
    refine it (fun hc2=>?_) (fun hc2=>?_)
    ·
     try simp at hc2
     replace F:=F.add hc2
     refine W.skip ?_
     refine hK5 _ ?_
     clear hK5 K5
     refine W.block ?_
     refine W.scope ?_
     refine rK [1,3,4,6,7] ?_
     refine W.seqk fun K6 hK6=>?_
     refine W.label ?_
     refine hK6 _ ?_
     clear hK6 K6
     refine W.seqk fun K7 hK7=>?_
     refine rK [1,3,4,6,7,32,33] ?_
     refine W.block ?_
     refine sn 7 9008 22 1 ?_
     refine lp (α:=Nat) [1,3,4,6,32] [41,46,54,61,65,66,69,70] [9008] (fun i=>[(33,I i),(7,.own 9008 0 (rnd ow lk L i).length)]) (fun i=>[(9008,.row true 22 1 ((rnd ow lk L i).map rgV))]) (fun i=>i≤ow.length) (fun i=>ow.length-i) 0 ?_ ?_ v0 ?_
     ·
      try (simp [Fx.get F])
      all_goals (
       rfl
      )
     ·
      try (simp [Fx.get F])
      all_goals (
       rfl
      )
     ·
      intro i hI2
      simp only [List.cons_append,List.nil_append]
      try dsimp only at hI2
      replace F:=F.add hI2
      refine rK [1,3,4,6,7,32,33,34] ?_
      refine W.seqk fun K8 hK8=>?_
      refine it (fun hc3=>?_) (fun hc3=>?_)
      ·
       try simp at hc3
       replace F:=F.add hc3
       refine W.skip ?_
       refine hK8 _ ?_
       clear hK8 K8
       refine W.seqk fun K9 hK9=>?_
       refine W.block ?_
       refine rK [1,3,4,6,7,8,32,33] ?_
       refine W.seqk fun K10 hK10=>?_
       by_cases hLi:i∈L
       ·
        replace F:=F.add hLi
        have qrl:=rnd_length ow lk L i
        have hw:(Lit.int .i64 (i:Int)).wf=true:=wfI (by omega) (by omega)
        have hgl:getM (.int .i64 (i:Int)) (leftE L)=if i∈L then some (B true) else none:=getM_left i L
        replace F:=F.add hw |>.add hgl
        refine rK [1,3,4,6,7,8,32,33,39] ?_
        refine cF ?_
        refine W.skip ?_
        refine hK10 _ ?_
        clear hK10 K10
        refine rK [1,3,4,6,7,8,9,32,33] ?_
        refine W.seqk fun K11 hK11=>?_
        refine W.seqR ?_
        refine oN 4 ?_
        refine oC [(10000,128),(10001,136)] ?_
        refine ct (points_ok' ow lk L i hv (by omega)) ?_
        refine oN 1 ?_
        refine oK [1,3,4,6,7,8,9,10,32,33] ?_
        refine W.block ?_
        refine lpa (α:=List Nat×Nat) [1,3,4,6,7,8,32,33] [54,61,65,66] [328] (fun z=>[(9,.own 328 0 z.1.length),(10,I z.2)]) (fun z=>[(328,.row true 3 1 (z.1.map nI))]) (fun z=>z.1.Nodup∧(∀y∈z.1,y<ow.length)∧z.2∈L∧ringP (ptF ow lk L) ow.length i=goP (ptF ow lk L) i (ow.length+1-z.1.length) z.1 z.2) (fun z=>ow.length+1-z.1.length) ([i],ptF ow lk L i) ?_ ?_
        ·
         exact ⟨by simp,fun y hy=>by simp at hy;omega,ptF_closed ow lk L _ hLi,by simp [ringP]⟩
        ·
         intro ⟨ring,at_⟩ hI3
         simp only [List.cons_append,List.nil_append]
         try dsimp only at hI3
         obtain ⟨hrd,hrl,haL,hgo⟩:=hI3
         have hat:=hL _ haL
         have hrn:ring.length≤ow.length:=le_of_nodup_lt hrd hrl
         replace F:=F.add hat |>.add hrn
         refine W.seqk fun K12 hK12=>?_
         refine rK [1,3,4,6,7,8,9,10,32,33,49] ?_
         refine it (fun hc5=>?_) (fun hc5=>?_)
         ·
          try simp at hc5
          replace F:=F.add hc5
          refine W.skip ?_
          refine hK12 _ ?_
          clear hK12 K12
          refine W.seqk fun K13 hK13=>?_
          refine W.block ?_
          refine W.seqk fun K14 hK14=>?_
          by_cases hai:at_<i
          ·
           replace F:=F.add hai
           refine W.seqR ?_
           refine oN 4 ?_
           refine gF ?_
           refine gF ?_
           refine gF ?_
           refine oN 1 ?_
           refine oK [1,3,4,6,7,8,9,10,32,33,62] ?_
           refine cT ?_
           refine W.exit ?_
           refine hK9 _ ?_
           clear hK14 K14 hK13 K13 hK11 K11 hK9 K9
           refine rEw ?_
           refine ⟨i+1,lf ?_ ?_,v0,v0⟩
           ·
            try (simp [Fx.get F])
            all_goals (
             rw [rnd_none (hgo.trans (goP_stop hrn (by omega) (.inl hai)))]
            )
           ·
            try (simp [Fx.get F])
            all_goals (
             rw [rnd_none (hgo.trans (goP_stop hrn (by omega) (.inl hai)))]
            )
          ·
           replace F:=F.add hai
           refine W.seqR ?_
           refine oN 4 ?_
           refine gT ?_
           refine gT ?_
           refine gC [] ?_
           refine ct (ContainsN_ok ring at_) ?_
           refine oN 1 ?_
           refine oK [1,3,4,6,7,8,9,10,32,33,62] ?_
           refine it (fun hc7=>?_) (fun hc7=>?_)
           ·
            try simp at hc7
            replace F:=F.add hc7
            refine W.exit ?_
            refine hK9 _ ?_
            clear hK14 K14 hK13 K13 hK11 K11 hK9 K9
            refine rEw ?_
            refine ⟨i+1,lf ?_ ?_,v0,v0⟩
            ·
             try (simp [Fx.get F])
             all_goals (
              rw [rnd_none (hgo.trans (goP_stop hrn (by omega) (.inr hc7)))]
             )
            ·
             try (simp [Fx.get F])
             all_goals (
              rw [rnd_none (hgo.trans (goP_stop hrn (by omega) (.inr hc7)))]
             )
           ·
            try simp at hc7
            replace F:=F.add hc7
            refine W.skip ?_
            refine hK14 _ ?_
            clear hK14 K14
            refine rEw ?_
            refine hK13 _ ?_
            clear hK13 K13
            refine W.region ?_
            refine oN 4 ?_
            refine oC [(10000,128),(10001,136)] ?_
            refine ct (points_ok' ow lk L at_ hv hat) ?_
            refine oN 1 ?_
            refine WOps.endK ?_
            refine ⟨(ring++[at_],ptF ow lk L at_),lf0, ?_,v0⟩
            ·
             have hne:at_≠i:=by omega
             exact ⟨List.nodup_append.2 ⟨hrd,by simp,fun a ha b hb=>by simp at hb;subst hb;intro e;exact hc7 (e▸ha)⟩,fun y hy=>(List.mem_append.1 hy).elim (hrl y) (fun h=>by simp at h;omega),ptF_closed ow lk L _ haL,hgo.trans (goP_on hrn hne (by simp [hai,hc7]))⟩
         ·
          try simp at hc5
          replace F:=F.add hc5
          refine W.exit ?_
          refine hK11 _ ?_
          clear hK12 K12 hK11 K11
          refine rEw ?_
          refine hK9 _ ?_
          clear hK9 K9
          refine rEw ?_
          refine ⟨i+1,lf ?_ ?_,v0,v0⟩
          ·
           try (simp [Fx.get F])
           all_goals (
            obtain rfl:at_=i:=by omega
            rw [rnd_some hLi (hgo.trans (goP_end hrn))];simp
           )
          ·
           try (simp [Fx.get F])
           all_goals (
            obtain rfl:at_=i:=by omega
            rw [rnd_some hLi (hgo.trans (goP_end hrn))];simp
           )
       ·
        replace F:=F.add hLi
        have qrl:=rnd_length ow lk L i
        have hw:(Lit.int .i64 (i:Int)).wf=true:=wfI (by omega) (by omega)
        have hgl:getM (.int .i64 (i:Int)) (leftE L)=if i∈L then some (B true) else none:=getM_left i L
        replace F:=F.add hw |>.add hgl
        refine rK [1,3,4,6,7,8,32,33,39] ?_
        refine cT ?_
        refine W.exit ?_
        refine hK9 _ ?_
        clear hK10 K10 hK9 K9
        refine rEw ?_
        refine ⟨i+1,lf ?_ ?_,v0,v0⟩
        ·
         try (simp [Fx.get F])
         all_goals (
          rw [rnd_out hLi]
         )
        ·
         try (simp [Fx.get F])
         all_goals (
          rw [rnd_out hLi]
         )
      ·
       try simp at hc3
       replace F:=F.add hc3
       obtain rfl:i=ow.length:=by omega
       have qrl:=rnd_length ow lk L ow.length
       refine W.exit ?_
       refine hK7 _ ?_
       clear hK8 K8 hK7 K7
       refine W.seqk fun K15 hK15=>?_
       refine rK [1,3,4,6,7,72,73,74] ?_
       refine W.block ?_
       refine lp (α:=Nat) [1,3,4,6,7,72,73] [79] [136] (fun j=>[(74,I j)]) (fun j=>[(136,.mp true shI (leftE (eraseAll ((rnd ow lk L ow.length).take j).flatten L)))]) (fun j=>j≤(rnd ow lk L ow.length).length) (fun j=>(rnd ow lk L ow.length).length-j) 0 ?_ ?_ v0 ?_
       ·
        exact v1
       ·
        try (simp [Fx.get F])
        all_goals (
         rfl
        )
       ·
        intro j hI4
        simp only [List.cons_append,List.nil_append]
        try dsimp only at hI4
        replace F:=F.add hI4
        refine rK [1,3,4,6,7,72,73,74,75] ?_
        refine W.seqk fun K16 hK16=>?_
        refine it (fun hc9=>?_) (fun hc9=>?_)
        ·
         try simp at hc9
         replace F:=F.add hc9
         refine W.skip ?_
         refine hK16 _ ?_
         clear hK16 K16
         refine W.seqk fun K17 hK17=>?_
         refine W.block ?_
         refine rK [1,3,4,6,7,12,72,73,74] ?_
         refine rK [1,3,4,6,7,72,73,74,78,79,80] ?_
         refine W.block ?_
         have qlen:=rnd_ring_le (lk:=lk) hd hL (List.getElem_mem hc9)
         refine lp (α:=Nat) [1,3,4,6,7,72,73,74,78,79] [] [136] (fun k=>[(80,I k)]) (fun k=>[(136,.mp true shI (leftE (eraseAll ((rnd ow lk L ow.length)[j].take k) (eraseAll ((rnd ow lk L ow.length).take j).flatten L))))]) (fun k=>k≤(rnd ow lk L ow.length)[j].length) (fun k=>(rnd ow lk L ow.length)[j].length-k) 0 ?_ ?_ v0 ?_
         ·
          exact v1
         ·
          try (simp [Fx.get F])
          all_goals (
           rfl
          )
         ·
          intro k hI5
          simp only [List.cons_append,List.nil_append]
          try dsimp only at hI5
          replace F:=F.add hI5
          refine rK [1,3,4,6,7,72,73,74,78,79,80,81] ?_
          refine W.seqk fun K18 hK18=>?_
          refine it (fun hc10=>?_) (fun hc10=>?_)
          ·
           try simp at hc10
           replace F:=F.add hc10
           refine W.skip ?_
           refine hK18 _ ?_
           clear hK18 K18
           refine W.seqk fun K19 hK19=>?_
           refine W.block ?_
           refine rK [1,3,4,6,7,14,72,73,74,78,79,80] ?_
           have qx:(rnd ow lk L ow.length)[j][k]<ow.length:=hL _ (rnd_mem hd hL (List.getElem_mem hc9) _ (List.getElem_mem hc10))
           have hw:(Lit.int .i64 (((rnd ow lk L ow.length)[j][k]:Nat):Int)).wf=true:=wfI (by omega) (by omega)
           have hdl:=delM_left (rnd ow lk L ow.length)[j][k]
           replace F:=F.add hw |>.add hdl
           refine rE ?_
           refine hK19 _ ?_
           clear hK19 K19
           refine rEw ?_
           refine ⟨k+1,lf ?_ ?_,v0,v0⟩
           ·
            try (simp [Fx.get F])
            all_goals (
             exact IntKind.wrap_i64 (by omega) (by omega)
            )
           ·
            try (simp [Fx.get F])
            all_goals (
             rw [List.take_succ_eq_append_getElem hc10,eraseAll_snoc]
            )
          ·
           try simp at hc10
           replace F:=F.add hc10
           refine W.exit ?_
           refine hK17 _ ?_
           clear hK18 K18 hK17 K17
           refine rEw ?_
           refine ⟨j+1,lf ?_ ?_,v0,v0⟩
           ·
            exact v1
           ·
            try (simp [Fx.get F])
            all_goals (
             rw [List.take_of_length_le hc10,List.take_succ_eq_append_getElem hc9,List.flatten_append,eraseAll_append];simp
            )
        ·
         try simp at hc9
         replace F:=F.add hc9
         refine W.exit ?_
         refine hK15 _ ?_
         clear hK16 K16 hK15 K15
         refine rEw ?_
         refine ngn (bn ?_)
         refine ⟨(out++rnd ow lk L ow.length,eraseAll (rnd ow lk L ow.length).flatten L),lf ?_ ?_, ?_, ?_⟩
         ·
          exact v1
         ·
          try (simp [Fx.get F])
          all_goals (
           rw [List.take_of_length_le hc9]
          )
         ·
          refine ⟨eraseAll_nodup hd,fun y hy=>hL y ((eraseAll_sub _ _).subset hy),by rw [hr,rings_next hd hL hc2,List.append_assoc], ?_⟩
          have:=rnd_step (lk:=lk) hd hL hc2
          simp only [List.length_append];omega
         ·
          exact rnd_step hd hL hc2
    ·
     try simp at hc2
     replace F:=F.add hc2
     refine W.exit ?_
     refine hK4 _ ?_
     clear hK5 K5 hK4 K4
     refine rK [2] ?_
     refine W.ret ?_
     refine er false [9000] [] ?_
     have:L=[]:=by cases L<;>simp_all
     subst this
     exact ⟨by rw [hr];simp [ringsF],rfl⟩
end Go.Sim.W6
