/- Who is ahead, in a list: sorting. -/
import Derived.Test.YtadlbdekaehipaaDoorLr
namespace Go.Sim
set_option maxHeartbeats 4000000
open Go.Proofs
set_option maxRecDepth 100000
set_option linter.unusedSimpArgs false
set_option linter.unusedVariables false
attribute [-simp] List.map_set List.map_take List.map_drop
def bubR (lt:Int→Int→Bool) (x:Int):List Int→List Int
  | []=>[x]
  | y :: r=>if lt x y=true then y :: bubR lt x r else x :: y :: r
def sortR (lt:Int→Int→Bool) (l:List Int):List Int:=l.foldl (fun r x=>bubR lt x r) []
def sortL (lt:Int→Int→Bool) (l:List Int):List Int:=(sortR lt l).reverse
theorem sortR_snoc (lt:Int→Int→Bool) (l:List Int) (x:Int):sortR lt (l++[x])=bubR lt x (sortR lt l):=by rw [sortR,List.foldl_append];rfl
theorem bubR_perm (lt:Int→Int→Bool) (x:Int):∀r,(bubR lt x r).Perm (x :: r)
  | []=>List.Perm.refl _
  | y :: r=>by
    rw [bubR]
    split
    · exact ((bubR_perm lt x r).cons y).trans (List.Perm.swap x y r)
    · exact List.Perm.refl _
theorem sortR_perm (lt:Int→Int→Bool) (l:List Int):(sortR lt l).Perm l:=by
  have aux:∀(l r:List Int),(l.foldl (fun r x=>bubR lt x r) r).Perm (r++l):=by
    intro l
    induction l with
    | nil=>intro r;simp
    | cons x l ih =>
      intro r
      rw [List.foldl_cons]
      refine (ih _).trans ?_
      refine ((bubR_perm lt x r).append_right l).trans ?_
      exact List.perm_middle.symm
  have:=aux l []
  rwa [List.nil_append] at this
theorem sortL_perm (lt:Int→Int→Bool) (l:List Int):(sortL lt l).Perm l:=(List.reverse_perm _).trans (sortR_perm lt l)
theorem sortL_len (lt:Int→Int→Bool) (l:List Int):(sortL lt l).length=l.length:=(sortL_perm lt l).length_eq
def rowJ (P:List Int) (x:Int) (R:List Int) (j:Nat):List Int:=P.take j++x :: (P.drop j++R)
theorem rowJ_len {P:List Int}{x:Int}{R:List Int}{j:Nat}:(rowJ P x R j).length=P.length+1+R.length:=by
  simp only [rowJ,List.length_append,List.length_cons,List.length_take,List.length_drop];omega
theorem rowJ_at {P:List Int}{x:Int}{R:List Int}{j:Nat}(hj:j≤P.length) (h:j<(rowJ P x R j).length):(rowJ P x R j)[j]=x:=by
  have hl:(P.take j).length=j:=by rw [List.length_take];omega
  simp only [rowJ]
  rw [List.getElem_append_right (by omega)]
  simp [hl]
theorem rowJ_prev {P:List Int}{x:Int}{R:List Int}{j:Nat}(hj:j<P.length) (h:j<(rowJ P x R (j+1)).length):(rowJ P x R (j+1))[j]=P[j]:=by
  have hl:(P.take (j+1)).length=j+1:=by rw [List.length_take];omega
  simp only [rowJ]
  rw [List.getElem_append_left (by omega),List.getElem_take]
theorem rowJ_swap {P:List Int}{x:Int}{R:List Int}{j:Nat}(hj:j<P.length):((rowJ P x R (j+1)).set (j+1) P[j]).set j x=rowJ P x R j:=by
  have hl:(P.take j).length=j:=by rw [List.length_take];omega
  have e1:rowJ P x R (j+1)=P.take j++P[j] :: x :: (P.drop (j+1)++R):=by
    rw [rowJ,List.take_succ_eq_append_getElem hj];simp only [List.append_assoc,List.singleton_append]
  have e2:rowJ P x R j=P.take j++x :: P[j] :: (P.drop (j+1)++R):=by
    rw [rowJ,List.drop_eq_getElem_cons hj];rfl
  rw [e1,e2,List.set_append_right _ _ (by omega),List.set_append_right _ _ (by omega),hl,show j+1-j=1 by omega,Nat.sub_self]
  rfl
theorem rowJ_full {P:List Int}{x:Int}{R:List Int}:rowJ P x R P.length=P++x :: R:=by simp [rowJ]
def BJ (lt:Int→Int→Bool) (P:List Int) (x:Int) (j:Nat):Prop:=bubR lt x P.reverse=(P.drop j).reverse++bubR lt x (P.take j).reverse
theorem BJ.full (lt:Int→Int→Bool) (P:List Int) (x:Int):BJ lt P x P.length:=by simp [BJ]
theorem BJ.step {lt:Int→Int→Bool}{P:List Int}{x:Int}{j:Nat}(hj:j<P.length) (h:BJ lt P x (j+1)) (hl:lt x P[j]=true):BJ lt P x j:=by
  unfold BJ at h ⊢
  rw [h,List.take_succ_eq_append_getElem hj,List.reverse_append,List.reverse_singleton,List.singleton_append,bubR,if_pos hl,List.drop_eq_getElem_cons hj,List.reverse_cons,List.append_assoc]
  rfl
theorem BJ.done {lt:Int→Int→Bool}{P:List Int}{x:Int}{j:Nat}{R:List Int}(hj:j≤P.length) (h:BJ lt P x j) (hl:j=0∨∃m,∃hm:m<P.length,j=m+1∧lt x P[m]=false):(bubR lt x P.reverse).reverse++R=rowJ P x R j:=by
  have e:bubR lt x (P.take j).reverse=x :: (P.take j).reverse:=by
    rcases hl with rfl | ⟨m,hm,rfl,hf⟩
    · simp [bubR]
    · rw [List.take_succ_eq_append_getElem hm,List.reverse_append,List.reverse_singleton,List.singleton_append,bubR,if_neg (by simp [hf])]
  rw [h,e,rowJ];simp
theorem sort_done {lt:Int→Int→Bool}{l:List Int}{i j:Nat}(hi:i<l.length) (hj:j≤(sortL lt (l.take i)).length) (h:BJ lt (sortL lt (l.take i)) l[i] j) (hl:j=0∨∃m,∃hm:m<(sortL lt (l.take i)).length,j=m+1∧lt l[i] (sortL lt (l.take i))[m]=false) :
    rowJ (sortL lt (l.take i)) l[i] (l.drop (i+1)) j=sortL lt (l.take (i+1))++l.drop (i+1):=by
  rw [←h.done hj hl,List.take_succ_eq_append_getElem hi,sortL,sortL,sortR_snoc,List.reverse_reverse]
theorem sort_head {lt:Int→Int→Bool}{l:List Int}{i:Nat}(hi:i<l.length):sortL lt (l.take i)++l.drop i=rowJ (sortL lt (l.take i)) l[i] (l.drop (i+1)) i:=by
  have e:(sortL lt (l.take i)).length=i:=by rw [sortL_len,List.length_take];omega
  have:=rowJ_full (P:=sortL lt (l.take i)) (x:=l[i]) (R:=l.drop (i+1))
  rw [e] at this
  rw [this,List.drop_eq_getElem_cons hi]
theorem sort_one {lt:Int→Int→Bool}{l:List Int}:sortL lt (l.take 1)++l.drop 1=l:=by
  cases l<;>simp [sortL,sortR,bubR]
def ltQ (l:Lett) (s:Nat) (a b:Int):Bool:=decide (cmpL l s a.toNat b.toNat<0)
def CanAll (l:Lett) (s:Nat) (xs:List Int):Prop:=∀x∈xs,∃a:Nat,x=(a:Int)∧a<l.apps.length∧canS l.stalls (nth l.apps a) s=true
theorem insSort_ok (l:Lett) (hv:ValidL l) (s:Nat) (hs:s<l.stalls.length) (xs:List Int) (hx:CanAll l s xs) (h8:xs.length≤8):ACalls Tryd.prog 49 [.own 10000 0 xs.length,I 0,I xs.length,.mth 22 [.agg [stalls l.stalls,apps l.apps,I s,.map 10001]]] [(10000,.row true 3 1 (xs.map I)),(10001,.mp true shI (ordE 0 (drawL l.apps)))] (fun r o=>r = .tup []∧o=[(10000,.row true 3 1 ((sortL (ltQ l s) xs).map I)),(10001,.mp true shI (ordE 0 (drawL l.apps)))]):=by
 have F:=Fx.nil
 replace F:=F.add h8
 refine ent Tryd.func49 Tryd.ntmps49 Tryd.results49 ?_
 refine rKw [0,1,2,3,8] ?_
 refine W.block ?_
 refine lp (α:=Nat) [0,1,2,3] [32] [10000] (fun i=>[(8,I i)]) (fun i=>[(10000,.row true 3 1 ((sortL (ltQ l s) (xs.take i)++xs.drop i).map I))]) (fun i=>1≤i∧i≤xs.length+1) (fun i=>xs.length+1-i) 1 ?_ ?_ v0 ?_
 ·
  exact v1
 ·
  try (simp [Fx.get F])
  all_goals (
   have e:=congrArg (List.map I) (sort_one (lt:=ltQ l s) (l:=xs))
   rw [List.map_append,List.drop_one,List.map_tail] at e
   exact e.symm
  )
 ·
  intro i hI0
  simp only [List.cons_append,List.nil_append]
  try dsimp only at hI0
  obtain ⟨hi1,hi2⟩:=hI0
  replace F:=F.add hi1 |>.add hi2
  refine W.seqk fun K1 hK1=>?_
  refine rK [0,1,2,3,8,14] ?_
  refine it (fun hc1=>?_) (fun hc1=>?_)
  ·
   try simp at hc1
   replace F:=F.add hc1
   refine W.skip ?_
   refine hK1 _ ?_
   clear hK1 K1
   refine W.seqk fun K2 hK2=>?_
   refine W.block ?_
   have hil:i<xs.length:=by omega
   obtain ⟨P,qP⟩:∃P,P=sortL (ltQ l s) (xs.take i):=⟨_,rfl⟩
   have hPl:P.length=i:=by rw [qP,sortL_len,List.length_take];omega
   obtain ⟨a,qa,qal,qac⟩:=hx xs[i] (List.getElem_mem hil)
   obtain ⟨R,qR⟩:∃R,R=xs.drop (i+1):=⟨_,rfl⟩
   have hRl:R.length=xs.length-(i+1):=by rw [qR,List.length_drop]
   have hhd:sortL (ltQ l s) (xs.take i)++xs.drop i=rowJ P (a:Int) R i:=by rw [qP,←qa,qR];exact sort_head hil
   have hal:a<l.apps.length:=qal
   have qPm:∀m,∀h:m<P.length,∃b:Nat,P[m]=(b:Int)∧b<l.apps.length∧canS l.stalls (nth l.apps b) s=true:=fun m h=>hx _ (List.mem_of_mem_take ((sortL_perm (ltQ l s) (xs.take i)).mem_iff.1 (by rw [←qP];exact List.getElem_mem h)))
   replace F:=F.add hil |>.add hPl |>.add hRl |>.add hhd |>.add hal
   refine rK [0,1,2,3,8,9] ?_
   refine W.block ?_
   refine lp (α:=Nat) [0,1,2,3,8] [32] [10000] (fun j=>[(9,I j)]) (fun j=>[(10000,.row true 3 1 ((rowJ P (a:Int) R j).map I))]) (fun j=>j≤i∧BJ (ltQ l s) P (a:Int) j) (fun j=>j) i ?_ ?_ ?_ ?_
   ·
    exact v1
   ·
    try (simp [Fx.get F])
    all_goals (
     rw [←List.map_append,hhd]
    )
   ·
    exact ⟨Nat.le_refl _,by have:=BJ.full (ltQ l s) P (a:Int);rwa [hPl] at this⟩
   ·
    intro j hI1
    simp only [List.cons_append,List.nil_append]
    try dsimp only at hI1
    obtain ⟨hji,hm1⟩:=hI1
    replace F:=F.add hji
    obtain ⟨Y,qY⟩:∃Y,Y=rowJ P (a:Int) R j:=⟨_,rfl⟩
    have hY:=qY.symm
    have hYl:Y.length=xs.length:=by rw [qY,rowJ_len];omega
    have hjY:j<Y.length:=by omega
    have hYj:Y[j]=(a:Int):=by subst qY;exact rowJ_at (by omega) _
    replace F:=F.add hY |>.add hYl |>.add hjY |>.add hYj
    refine W.seqk fun K3 hK3=>?_
    by_cases hj0:j=0
    ·
     replace F:=F.add hj0
     refine wD 14 [] [[],[],[1,0],[0,1,2],[2,1,0,3],[2,1,0,3],[2,1,0,3],[6,3,0,1,2,5],[5,2,1,0,3,6,7],[2,1,0,3],[2,1,0,3],[3,0,1,2,10],[10,11,3,0,1,2,9],[9,2,1,0,3,11,10,12],[12,10,11,9,13,7,6,5,8,3,0,1,2,4],[4,2,1,0,3,8,5,6,7,13,9,11,10,12,14],[14,12,10,11,9,13,7,6,5,8,4,15,2,1,0,3]] ?_
     refine dB [([19],[],[]),([18],[false],[]),([],[true,true],[]),([],[true,true,true],[])] 10 4 ?_
     refine dF [some 22,some 23,some 24,some 25,some 26,some 27,some 28,some 29,some 30,some 31] 3 21 true 0 ?_
     refine dD ?_
     refine gF ?_
     refine gF ?_
     refine oN 1 ?_
     refine oK [0,1,2,3,8,9,34] ?_
     refine cF ?_
     refine W.exit ?_
     refine hK2 _ ?_
     clear hK3 K3 hK2 K2
     refine rEw ?_
     refine ⟨i+1,lf ?_ ?_,v0,v0⟩
     ·
      exact v1
     ·
      try (simp [Fx.get F])
      all_goals (
       rw [hj0] at hm1
       rw [←List.map_append,←sort_done hil (j:=0) (Nat.zero_le _) (by rw [←qP,qa];exact hm1) (.inl rfl),←qP,qa,←qR]
      )
    ·
     replace F:=F.add hj0
     obtain ⟨m,rfl⟩:∃m,j=m+1:=⟨j-1,by omega⟩
     have hmP:m<P.length:=by omega
     have hmY:m<Y.length:=by omega
     have hmx:(m:Int)+1<xs.length:=by omega
     have hm0:(0:Int)≤(m:Int)+1:=by omega
     have hmx2:m<xs.length:=by omega
     have hmx3:m+1<xs.length:=by omega
     obtain ⟨b,qb,qbl,qbc⟩:=qPm m hmP
     have hYm:Y[m]=(b:Int):=by rw [←qb];subst qY;exact rowJ_prev hmP _
     have hbl:b<l.apps.length:=qbl
     replace F:=F.add hmP |>.add hmY |>.add hmx |>.add hm0 |>.add hmx2 |>.add hmx3 |>.add hYm |>.add hbl
     refine wD 14 [] [[],[],[1,0],[0,1,2],[2,1,0,3],[2,1,0,3],[2,1,0,3],[6,3,0,1,2,5],[5,2,1,0,3,6,7],[2,1,0,3],[2,1,0,3],[3,0,1,2,10],[10,11,3,0,1,2,9],[9,2,1,0,3,11,10,12],[12,10,11,9,13,7,6,5,8,3,0,1,2,4],[4,2,1,0,3,8,5,6,7,13,9,11,10,12,14],[14,12,10,11,9,13,7,6,5,8,4,15,2,1,0,3]] ?_
     refine dB [([19],[],[]),([18],[false],[]),([],[true,true],[]),([],[true,true,true],[])] 10 4 ?_
     refine dT [23,24,25,26,27,28,29,30,31] [true,true,true,true] [] ?_
     refine dT [22,24,27,28,29,30,31] [true,true,true,true,false] [] ?_
     refine dT [22,23,27,28,29,30,31] [true,true,true,true,false,false] [] ?_
     refine dT [22,27,28,29,30,31] [true,true,true,true,false,true,true] [] ?_
     refine dT [22,27,28,29,30,31] [true,true,true,true,false,true,true,true] [] ?_
     refine dT [22,23,24,25,26,28,29] [true,true,true,true,false,false,false,false,false] [] ?_
     refine dT [22,23,24,25,26,27] [true,true,true,true,false,false,false,false,false,false] [] ?_
     refine dTw [22,23,24,25,26,27] [true,true,true,true,false,false,false,false,false,false,true] [] ?_
     refine dT [22,23,24,25,26] [true,true,true,true,false,false,false,false,false,true,true,true] [] ?_
     refine dT [22,23,24,25,26] [true,true,true,true,false,false,false,false,false,true,true,true,true] [] ?_
     refine dD ?_
     refine gC [(10000,10001)] ?_
     refine ct (compare_ok l hv s a b hs hal hbl (fun _=>⟨by rw [←nth_get hal];exact qac,by rw [←nth_get hbl];exact qbc⟩)) ?_
     refine gT ?_
     refine oN 1 ?_
     refine oK [0,1,2,3,8,9,34] ?_
     refine it (fun hc3=>?_) (fun hc3=>?_)
     ·
      try simp at hc3
      replace F:=F.add hc3
      refine W.skip ?_
      refine hK3 _ ?_
      clear hK3 K3
      refine W.seqk fun K4 hK4=>?_
      refine W.block ?_
      refine wDe 16 [(15,[10000])] [[],[],[],[],[3],[],[],[6],[6,7,5],[5,7,6,8],[],[],[11,10],[10,11,12],[12,11,10,13,9,8,7,6,5,1,0],[0,1,5,6,7,8,9,13,10,11,12,14],[15,14,13,12,11,10,9,8,7,6,5,1,0,3,4,2],[2,4,3,0,1,5,6,7,8,9,10,11,12,13,14,15,16]] ?_
      refine dBw [([38,39,40,41,42,43,44,45,46,47,48,49,50],[],[]),([37,39,40,41,42,43,44,45,46,47,48,49,50],[false],[]),([37,38,40,41,42,43,44,45,46,47,48,49,50,51],[false,false],[10000]),([37,38,39,42,43,44,45,46,47,48,49,50,51],[false,false,false],[10000]),([37,38,39,42,43,44,45,46,47,48,49,50,51],[false,false,false,true],[10000]),([37,38,39,40,41,43,44,47,48,49,50],[false,false,false,false,false],[]),([37,38,39,40,41,42,47,48,49,50],[false,false,false,false,false,false],[]),([37,38,39,40,41,42,47,48,49,50],[false,false,false,false,false,false,true],[]),([37,38,39,40,41,47,48,49,50],[false,false,false,false,false,true,true,true],[]),([37,38,39,40,41,47,48,49,50],[false,false,false,false,false,true,true,true,true],[]),([37,38,39,40,41,42,43,44,45,46,48],[false,false,false,false,false,false,false,false,false,false],[]),([37,38,39,40,41,42,43,44,45,46,47],[false,false,false,false,false,false,false,false,false,false,false],[]),([37,38,39,40,41,42,43,44,45,46],[false,false,false,false,false,false,false,false,false,false,true,true],[]),([37,38,39,40,41,42,43,44,45,46],[false,false,false,false,false,false,false,false,false,false,true,true,true],[]),([39,40,41],[true,true,false,false,false,true,true,true,true,true,true,true,true,true],[])] 1 15 ?_
      refine WDraw.upd hΓ [10000] (viewB_eq (L:=[39,40,41]) (S:=[true,true,false,false,false,true,true,true,true,true,true,true,true,true,true]) (O:=[]) (by kernel_rfl) (by kernel_rfl) (by simp [h8,hi1,hi2,hc1,hil,hPl,hRl,hhd,hal,hji,hY,hYl,hjY,hYj,hj0,hmP,hmY,hmx,hm0,hmx2,hmx3,hYm,hbl,hc3];rfl)) (by first | rfl | simp) (by simp [h8,hi1,hi2,hc1,hil,hPl,hRl,hhd,hal,hji,hY,hYl,hjY,hYj,hj0,hmP,hmY,hmx,hm0,hmx2,hmx3,hYm,hbl,hc3];first | rfl | exact ⟨rfl,rfl⟩) (by simp [h8,hi1,hi2,hc1,hil,hPl,hRl,hhd,hal,hji,hY,hYl,hjY,hYj,hj0,hmP,hmY,hmx,hm0,hmx2,hmx3,hYm,hbl,hc3];first | done | rfl) (.inr (by simp)) (by simp [h8,hi1,hi2,hc1,hil,hPl,hRl,hhd,hal,hji,hY,hYl,hjY,hYj,hj0,hmP,hmY,hmx,hm0,hmx2,hmx3,hYm,hbl,hc3];rfl) ?_
      refine dD ?_
      refine WOps.le Le.dedup rfl rfl ?_
      refine WOps.norm (by simp [h8,hi1,hi2,hc1,hil,hPl,hRl,hhd,hal,hji,hY,hYl,hjY,hYj,hj0,hmP,hmY,hmx,hm0,hmx2,hmx3,hYm,hbl,hc3];rfl) ?_
      refine oN 2 ?_
      refine WOps.endK ?_
      refine hK4 _ ?_
      clear hK4 K4
      refine rEw ?_
      refine ⟨m,lf ?_ ?_, ?_,v0⟩
      ·
       exact v1
      ·
       try (simp [Fx.get F])
       all_goals (
        rw [qY,←qb,rowJ_swap hmP]
       )
      ·
       exact ⟨by omega,hm1.step hmP (by rw [qb,ltQ,Int.toNat_natCast,Int.toNat_natCast];exact decide_eq_true hc3)⟩
     ·
      try simp at hc3
      replace F:=F.add hc3
      refine W.exit ?_
      refine hK2 _ ?_
      clear hK3 K3 hK2 K2
      refine rEw ?_
      refine ⟨i+1,lf ?_ ?_,v0,v0⟩
      ·
       exact v1
      ·
       try (simp [Fx.get F])
       all_goals (
        subst qP
        rw [←List.map_append,←sort_done hil (j:=m+1) (by omega) (by rw [qa];exact hm1) (.inr ⟨m,hmP,rfl,by rw [qa,qb,ltQ,Int.toNat_natCast,Int.toNat_natCast];exact decide_eq_false (by omega)⟩),qa,←qR,hY]
       )
  ·
   try simp at hc1
   replace F:=F.add hc1
   refine W.exit ?_
   refine te (te (bs ?_))
   clear hK1 K1
   refine en false [] [(10000,10000),(10001,10001)] ?_
   have e:xs.length≤i:=by omega
   rw [List.take_of_length_le e,List.drop_of_length_le e];simp
theorem pdq_ok (l:Lett) (hv:ValidL l) (s:Nat) (hs:s<l.stalls.length) (xs:List Int) (hx:CanAll l s xs) (h8:xs.length≤8) (lim:Int):ACalls Tryd.prog 42 [.own 10000 0 xs.length,I 0,I xs.length,I lim,.mth 22 [.agg [stalls l.stalls,apps l.apps,I s,.map 10001]]] [(10000,.row true 3 1 (xs.map I)),(10001,.mp true shI (ordE 0 (drawL l.apps)))] (fun r o=>r = .tup []∧o=[(10000,.row true 3 1 ((sortL (ltQ l s) xs).map I)),(10001,.mp true shI (ordE 0 (drawL l.apps)))]):=by
 have F:=Fx.nil
 replace F:=F.add h8
 refine ent Tryd.func42 Tryd.ntmps42 Tryd.results42 ?_
 have h12:(xs.length:Int)≤12:=by omega
 replace F:=F.add h12
 refine rK [0,1,2,3,4,10] ?_
 refine rK [0,1,2,3,4,10,11] ?_
 refine W.block ?_
 refine lpa (α:=Unit) [0,4] [30,37,44,52,61,80,94,103,111,134,146] [] (fun u=>[(1,I 0),(2,I xs.length),(3,I lim),(10,B true),(11,B true)]) (fun u=>[]) (fun u=>True) (fun u=>0) () v0 ?_
 ·
  intro u hI0
  simp only [List.cons_append,List.nil_append]
  try dsimp only at hI0
  replace F:=F.add hI0
  refine W.block ?_
  refine rKw [0,1,2,3,4,10,11,12] ?_
  refine W.seqk fun K1 hK1=>?_
  refine rK [0,1,2,3,4,10,11,12,25] ?_
  refine cT ?_
  refine W.seqR ?_
  refine oN 4 ?_
  refine oC [(10000,10000),(10001,10001)] ?_
  refine ct (insSort_ok l hv s hs xs hx h8) ?_
  refine oK [] ?_
  refine W.ret ?_
  refine tr (br (tr (br ?_)))
  clear hK1 K1
  exact er0 false [] [(10000,10000),(10001,10001)]
theorem strIx_ex (d:Array UInt8) (n:Nat) (h:n<d.size) (h2:n<256):strIndexA (.val (.string ⟨d⟩)) (.val (.int .u8 (IntKind.u8.wrap (n:Int))))=some (.val (.int .u8 (d[n]).toNat)):=by
  have e:IntKind.u8.wrap (n:Int)=(n:Int):=by simp only [IntKind.wrap,IntKind.bits,IntKind.signed];simp;omega
  have e2:(⟨d⟩:ByteArray)[n]?=some d[n]:=by
    rw [getElem?_pos (⟨d⟩:ByteArray) n h];rfl
  rw [strIndexA,e,if_pos (by omega),Int.toNat_natCast,e2];rfl
attribute [local simp] strIx_ex
theorem Len64_ok (n:Nat) (h8:n≤8):ACalls Tryd.prog 58 [.val (.int .u64 n)] [] (fun r o=>∃z:Int,r=I z∧o=[]∧True):=by
 have F:=Fx.nil
 replace F:=F.add h8
 refine ent Tryd.func58 Tryd.ntmps58 Tryd.results58 ?_
 have h1:(n:Int)<4294967296:=by omega
 have h2:(n:Int)<65536:=by omega
 have h3:(n:Int)<256:=by omega
 have h4:n<256:=by omega
 replace F:=F.add h1 |>.add h2 |>.add h3 |>.add h4
 refine rK [0,2] ?_
 refine W.seqk fun K1 hK1=>?_
 refine rK [0,2,4] ?_
 refine cF ?_
 refine W.skip ?_
 refine hK1 _ ?_
 clear hK1 K1
 refine W.seqk fun K2 hK2=>?_
 refine rK [0,2,8] ?_
 refine cF ?_
 refine W.skip ?_
 refine hK2 _ ?_
 clear hK2 K2
 refine W.seqk fun K3 hK3=>?_
 refine rK [0,2,14] ?_
 refine cF ?_
 refine W.skip ?_
 refine hK3 _ ?_
 clear hK3 K3
 refine rK [2] ?_
 refine W.ret ?_
 refine er false [] [] ?_
 exact ⟨_,rfl,rfl,trivial⟩
theorem Len_ok (n:Nat) (h8:n≤8):ACalls Tryd.prog 43 [.val (.int .u64 n)] [] (fun r o=>∃z:Int,r=I z∧o=[]∧True):=by
 have F:=Fx.nil
 refine ent Tryd.func43 Tryd.ntmps43 Tryd.results43 ?_
 refine rK [0] ?_
 refine W.seqk fun K1 hK1=>?_
 refine cF ?_
 refine W.skip ?_
 refine hK1 _ ?_
 clear hK1 K1
 refine W.seqR ?_
 refine oN 1 ?_
 refine oC [] ?_
 refine CallT.mkE (Len64_ok n h8) (fun z7 hz7=>⟨(by simp), ?_⟩)
 refine WOps.norm (by simp;rfl) ?_
 refine oN 1 ?_
 refine oK [2] ?_
 refine W.ret ?_
 refine er false [] [] ?_
 exact ⟨z7,rfl,rfl,trivial⟩
theorem SortFunc_ok (l:Lett) (hv:ValidL l) (s:Nat) (hs:s<l.stalls.length) (xs:List Int) (hx:CanAll l s xs) (h8:xs.length≤8):ACalls Tryd.prog 35 [.own 10000 0 xs.length,.mth 22 [.agg [stalls l.stalls,apps l.apps,I s,.map 10001]]] [(10000,.row true 3 1 (xs.map I)),(10001,.mp true shI (ordE 0 (drawL l.apps)))] (fun r o=>r = .tup []∧o=[(10000,.row true 3 1 ((sortL (ltQ l s) xs).map I)),(10001,.mp true shI (ordE 0 (drawL l.apps)))]):=by
 have F:=Fx.nil
 replace F:=F.add h8
 refine ent Tryd.func35 Tryd.ntmps35 Tryd.results35 ?_
 have hwu:IntKind.u64.wrap (xs.length:Int)=(xs.length:Int):=wrap_u64 (by omega) (by omega)
 replace F:=F.add hwu
 refine rK [0,1,4] ?_
 refine W.region ?_
 refine oN 4 ?_
 refine oC [] ?_
 refine CallT.mkE (Len_ok xs.length h8) (fun z11 hz11=>⟨(by simp [h8,hwu]), ?_⟩)
 refine WOps.norm (by simp [h8,hwu];rfl) ?_
 refine oN 1 ?_
 refine oC [(10000,10000),(10001,10001)] ?_
 refine ct (pdq_ok l hv s hs xs hx h8 z11) ?_
 refine WOps.endK ?_
 exact en0 false [] [(10000,10000),(10001,10001)]
theorem Clone_nil  : ACalls Tryd.prog 34 [ints []] [] (fun r o=>r = .own 20000 0 0∧o=[(20000,.row true 3 1 [])]):=by
 have F:=Fx.nil
 refine ent Tryd.func34 Tryd.ntmps34 Tryd.results34 ?_
 refine rK [0] ?_
 refine W.seqk fun K1 hK1=>?_
 refine W.seqR ?_
 refine oN 1 ?_
 refine WOps.nilU hΓ rfl rfl rfl rfl rfl (by first | rfl | (simp;done)) (by first | rfl | (simp;done)) fun b=>?_
 refine WOps.norm (by simp;rfl) ?_
 refine oK [0,4] ?_
 refine it (fun hc1=>?_) (fun hc1=>?_)
 ·
  try simp at hc1
  replace F:=F.add hc1
  refine rK [2] ?_
  refine W.weaken (Le.ownNil (t:=2) (id:=9000) (ty:=3) (sz:=1) rfl (by simp [hc1])) ?_
  refine W.norm (by simp [hc1,St.ownNil];rfl) ?_
  refine W.ret ?_
  refine tr ?_
  clear hK1 K1
  refine er false [] [(20000,9000)] ?_
  exact ⟨rfl,rfl⟩
 ·
  try simp at hc1
  replace F:=F.add hc1
  refine W.skip ?_
  refine hK1 _ ?_
  clear hK1 K1
  refine rKw [2] ?_
  refine W.ret ?_
  refine er false [] [(20000,40)] ?_
  exact ⟨rfl,rfl⟩
theorem Clone_cons (y:Int) (r:List Int) (h8:r.length≤8):ACalls Tryd.prog 34 [ints (y :: r)] [] (fun z o=>z = .own 20000 0 (r.length+1)∧o=[(20000,.row true 3 1 ((y :: r).map I))]):=by
 have F:=Fx.nil
 replace F:=F.add h8
 refine ent Tryd.func34 Tryd.ntmps34 Tryd.results34 ?_
 refine rK [0] ?_
 refine W.seqk fun K1 hK1=>?_
 refine rK [0,4] ?_
 refine cF ?_
 refine W.skip ?_
 refine hK1 _ ?_
 clear hK1 K1
 refine rKw [2] ?_
 refine W.ret ?_
 exact er0 false [] [(20000,40)]
theorem Clone_ok (xs:List Int) (h8:xs.length≤8):ACalls Tryd.prog 34 [ints xs] [] (fun z o=>z = .own 20000 0 xs.length∧o=[(20000,.row true 3 1 (xs.map I))]):=by
  cases xs with
  | nil=>exact Clone_nil
  | cons y r=>exact Clone_cons y r (by simp at h8;omega)
theorem sorted_ok (l:Lett) (hv:ValidL l) (s:Nat) (hs:s<l.stalls.length) (xs:List Int) (hx:CanAll l s xs) (h8:xs.length≤8):ACalls Tryd.prog 20 [ints xs,.mth 22 [.agg [stalls l.stalls,apps l.apps,I s,.map 10000]]] [(10000,.mp true shI (ordE 0 (drawL l.apps)))] (fun r o=>r = .own 20000 0 xs.length∧o=[(10000,.mp true shI (ordE 0 (drawL l.apps))),(20000,.row true 3 1 ((sortL (ltQ l s) xs).map I))]):=by
 have F:=Fx.nil
 refine ent Tryd.func20 Tryd.ntmps20 Tryd.results20 ?_
 refine rK [0,1] ?_
 refine W.seqR ?_
 refine oN 1 ?_
 refine oC [] ?_
 refine ct (Clone_ok xs h8) ?_
 refine oN 1 ?_
 refine oK [0,1] ?_
 refine W.seqR ?_
 refine oN 2 ?_
 refine oC [(10000,48),(10001,10000)] ?_
 refine ct (SortFunc_ok l hv s hs xs hx h8) ?_
 refine oK [0] ?_
 refine rK [4] ?_
 refine W.ret ?_
 exact er0 false [] [(10000,10000),(20000,48)]
def canL (l:Lett) (s k:Nat):List Int:=((List.range k).filter fun a=>canS l.stalls (nth l.apps a) s).map fun a:Nat=>(a:Int)
theorem canL_zero (l:Lett) (s:Nat):canL l s 0=[]:=rfl
theorem canL_hit {l:Lett}{s a:Nat}(ha:a<l.apps.length) (h:canS l.stalls l.apps[a] s=true):canL l s (a+1)=canL l s a++[(a:Int)]:=by
  simp [canL,List.range_succ,List.filter_append,nth_get ha,h]
theorem canL_miss {l:Lett}{s a:Nat}(ha:a<l.apps.length) (h:¬canS l.stalls l.apps[a] s=true):canL l s (a+1)=canL l s a:=by
  simp [canL,List.range_succ,List.filter_append,nth_get ha,h]
theorem canL_len (l:Lett) (s k:Nat):(canL l s k).length≤k:=by
  rw [canL,List.length_map]
  have:=List.length_filter_le (fun a=>canS l.stalls (nth l.apps a) s) (List.range k)
  rwa [List.length_range] at this
theorem mem_canL {l:Lett}{s k:Nat}{x:Int}:x∈canL l s k↔∃a:Nat,x=(a:Int)∧a<k∧canS l.stalls (nth l.apps a) s=true:=by
  rw [canL,List.mem_map]
  constructor
  · rintro ⟨a,ha,rfl⟩
    obtain ⟨h1,h2⟩:=List.mem_filter.1 ha
    exact ⟨a,rfl,List.mem_range.1 h1,h2⟩
  · rintro ⟨a,rfl,h1,h2⟩
    exact ⟨a,List.mem_filter.2 ⟨List.mem_range.2 h1,h2⟩,rfl⟩
attribute [local simp] canL_zero
theorem ordE_free:∀(l:List Int) (k:Nat) (a:Value) (b:AV),(a,b)∈ordE k l→b.free=true
  | [],_,_,_,h=>by simp [ordE] at h
  | x :: r,k,a,b,h=>by
    simp only [ordE,List.mem_cons,Prod.mk.injEq] at h
    rcases h with ⟨_,rfl⟩ | h
    · rfl
    · exact ordE_free r (k+1) a b h
def rankL (l:Lett) (s:Nat):List Int:=sortL (ltQ l s) (canL l s l.apps.length)
theorem Ranks_ok (l:Lett) (hv:ValidL l) (s:Nat) (hs:s<l.stalls.length):ACalls Tryd.prog 9 [letV l,I s] [] (fun r o=>r = .tup [ints (rankL l s),I 0]∧o=[]):=by
 have F:=Fx.nil
 replace F:=F.add hs
 refine ent Tryd.func9 Tryd.ntmps9 Tryd.results9 ?_
 have hck:checkL l=0:=checkL_zero.2 hv
 have h8:=hv.a8
 have hs8:=hv.s8
 have hw1:IntKind.i64.wrap ((l.stalls.length:Int)-1)=(l.stalls.length:Int)-1:=wrap_i64 (by omega) (by omega)
 have hin:(s:Int)≤(l.stalls.length:Int)-1:=by omega
 replace F:=F.add hck |>.add h8 |>.add hs8 |>.add hw1 |>.add hin
 refine rK [1,2] ?_
 refine W.seqk fun K1 hK1=>?_
 refine W.seqR ?_
 refine oN 1 ?_
 refine oC [] ?_
 refine ct (Check_ok _) ?_
 refine oN 1 ?_
 refine oK [1,2,6] ?_
 refine rK [1,2,6,12] ?_
 refine cF ?_
 refine W.skip ?_
 refine hK1 _ ?_
 clear hK1 K1
 refine W.seqk fun K2 hK2=>?_
 refine W.seqR ?_
 refine oN 5 ?_
 refine oC [] ?_
 refine ct (in_ok _ _ _) ?_
 refine oN 1 ?_
 refine oK [1,2,20] ?_
 refine cF ?_
 refine W.skip ?_
 refine hK2 _ ?_
 clear hK2 K2
 refine rK [1,2,7] ?_
 refine W.seqk fun K3 hK3=>?_
 refine rK [1,2,7,23,24] ?_
 refine W.block ?_
 refine sn 7 9000 3 1 ?_
 refine lpa (α:=Nat) [1,2,23] [30,34,35] [9000] (fun a=>[(24,I a),(7,.own 9000 0 (canL l s a).length)]) (fun a=>[(9000,.row true 3 1 ((canL l s a).map I))]) (fun a=>a≤l.apps.length) (fun a=>l.apps.length-a) 0 v0 ?_
 ·
  intro a hI0
  simp only [List.cons_append,List.nil_append]
  try dsimp only at hI0
  replace F:=F.add hI0
  refine rK [1,2,7,23,24,25] ?_
  refine W.seqk fun K4 hK4=>?_
  refine it (fun hc3=>?_) (fun hc3=>?_)
  ·
   try simp at hc3
   replace F:=F.add hc3
   refine W.skip ?_
   refine hK4 _ ?_
   clear hK4 K4
   refine W.seqk fun K5 hK5=>?_
   refine W.block ?_
   have ha:a<l.apps.length:=by omega
   have hcl:=canL_len l s a
   replace F:=F.add ha |>.add hcl
   refine rK [1,2,7,8,23,24] ?_
   by_cases hcan:canS l.stalls l.apps[a] s=true
   ·
    replace F:=F.add hcan
    have hwp:=wishP_can hcan
    replace F:=F.add hwp
    refine W.seqR ?_
    refine oN 3 ?_
    refine oC [] ?_
    refine ct (wish_ok l hv a ha s) ?_
    refine oN 1 ?_
    refine oK [1,2,7,8,23,24,31] ?_
    refine cT ?_
    refine rEw ?_
    refine hK5 _ ?_
    clear hK5 K5
    refine rEw ?_
    refine ⟨a+1,lf ?_ ?_,v0,v0⟩
    ·
     try (simp [Fx.get F])
     all_goals (
      (rw [canL_hit ha hcan];simp;done)
     )
    ·
     try (simp [Fx.get F])
     all_goals (
      (rw [canL_hit ha hcan];simp;done)
     )
   ·
    replace F:=F.add hcan
    have hwp:=wishP_not hcan
    replace F:=F.add hwp
    refine W.seqR ?_
    refine oN 3 ?_
    refine oC [] ?_
    refine ct (wish_ok l hv a ha s) ?_
    refine oN 1 ?_
    refine oK [1,2,7,8,23,24,31] ?_
    refine cF ?_
    refine W.skip ?_
    refine hK5 _ ?_
    clear hK5 K5
    refine rEw ?_
    refine ⟨a+1,lf ?_ ?_,v0,v0⟩
    ·
     try (simp [Fx.get F])
     all_goals (
      (rw [canL_miss ha hcan];done)
     )
    ·
     try (simp [Fx.get F])
     all_goals (
      (rw [canL_miss ha hcan];done)
     )
  ·
   try simp at hc3
   replace F:=F.add hc3
   refine W.exit ?_
   refine hK3 _ ?_
   clear hK4 K4 hK3 K3
   have hae:a=l.apps.length:=by omega
   have qca:CanAll l s (canL l s l.apps.length):=fun x hx=>mem_canL.1 hx
   have hcl:=canL_len l s l.apps.length
   have hfr:(∀(a:Value) (b:AV),(a,b)∈ordE 0 (drawL l.apps)→b.free=true)=True:=eq_true (ordE_free (drawL l.apps) 0)
   have hsl:sortL (ltQ l s) (canL l s l.apps.length)=rankL l s:=rfl
   have hrl:(rankL l s).length=(canL l s l.apps.length).length:=sortL_len _ _
   have hrt:List.take (canL l s l.apps.length).length ((rankL l s).map I)=(rankL l s).map I:=List.take_of_length_le (by rw [List.length_map,hrl];exact Nat.le_refl _)
   replace F:=F.add hae |>.add hcl |>.add hfr |>.add hsl |>.add hrl |>.add hrt
   refine W.seqR ?_
   refine oN 3 ?_
   refine oC [] ?_
   refine ct (queueOf_ok _ hv _) ?_
   refine oN 1 ?_
   refine oC [(10000,320)] ?_
   refine ct (sorted_ok l hv s hs (canL l s l.apps.length) qca (by omega)) ?_
   refine oN 2 ?_
   refine oK [4,5] ?_
   refine W.ret ?_
   exact er0 false [336] []
end Go.Sim
