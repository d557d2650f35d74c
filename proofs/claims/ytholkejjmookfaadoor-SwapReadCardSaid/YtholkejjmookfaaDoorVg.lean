/- The program's Rings, Swap, CheckHeld. -/
import Derived.Test.YtholkejjmookfaaDoorVf
namespace Go.Sim.W6
open Go.Proofs Go.Plain
set_option maxRecDepth 100000
set_option linter.unusedSimpArgs false
set_option linter.unusedVariables false
attribute [-simp] List.map_set List.map_take List.map_drop
attribute [local simp] take_map' drop_map'
def ringsT (ow:List Turn) (lk:List (List Turn)):List (List Nat):=if checkT ow lk=0 then allRings (ptF ow lk) ow.length else []
theorem checkT_lt (ow:List Turn) (lk:List (List Turn)) (h:checkT ow lk≠0):ringsT ow lk=[]:=if_neg h
instance:NthD Nat:=⟨0⟩
theorem Rings_ok (ow:List Turn) (lk:List (List Turn)):ACalls Tryd.prog 10 [trade ow lk] [] (fun r o=>r = .tup [tabsN (ringsT ow lk),I (checkT ow lk)]∧o=[]):=by
 have F:=Fx.nil
 refine ent Tryd.func10 Tryd.ntmps10 Tryd.results10 ?_
 refine rK [1] ?_
 refine W.seqk fun K1 hK1=>?_
 refine W.seqR ?_
 refine oN 1 ?_
 refine oC [] ?_
 refine ct (W6.Check_ok _ _) ?_
 refine oN 1 ?_
 refine oK [1,4] ?_
 refine rK [1,4,8] ?_
 refine it (fun hc1=>?_) (fun hc1=>?_)
 ·
  try simp at hc1
  replace F:=F.add hc1
  refine rK [2,3] ?_
  refine W.ret ?_
  refine tr ?_
  clear hK1 K1
  refine er true [] [] ?_
  exact ⟨by rw [checkT_lt _ _ (by simpa using hc1)];rfl,rfl⟩
 ·
  try simp at hc1
  replace F:=F.add hc1
  have hv:ValidT ow lk:=checkT_zero.1 (by simpa using hc1)
  replace F:=F.add hv
  refine W.skip ?_
  refine hK1 _ ?_
  clear hK1 K1
  refine W.seqR ?_
  refine oN 1 ?_
  refine oC [] ?_
  refine ct (rings_ok ow lk hv) ?_
  refine oN 2 ?_
  refine oK [2,3] ?_
  refine W.ret ?_
  refine er true [] [] ?_
  have h0:checkT ow lk=0:=by simpa using hc1
  exact ⟨by rw [ringsT,if_pos h0,h0],rfl⟩
theorem ringsF_mem {g : List Nat → Nat → Nat} {n : Nat} (hg : ∀ L, Closed (g L) L) : ∀ {k : Nat} {L : List Nat}, L.Nodup → (∀ x ∈ L, x < n) → ∀ r ∈ ringsF g n k L, (∀ x ∈ r, x < n) ∧ r.length ≤ n
  | 0,L,_,_,r,hr=>by simp [ringsF] at hr
  | k + 1, L, hd, hL, r, hr => by
    rw [ringsF] at hr
    split at hr
    · cases hr
    · rcases List.mem_append.1 hr with h | h
      · obtain ⟨m,hm,h⟩:=(mem_roundF (hg L) (le_of_nodup_lt hd hL) hL).1 h
        obtain ⟨h1,_⟩:=h.mem (hg L) hm
        obtain ⟨k,hF,_,e⟩:=h
        exact ⟨fun x hx=>hL x (h1 x hx),by rw [e,orb_length];exact Nat.le_trans (hF.le (hg L) hm) (le_of_nodup_lt hd hL)⟩
      · exact ringsF_mem hg (eraseAll_nodup hd) (fun x hx=>hL x ((eraseAll_sub _ _).subset hx)) r h
theorem allRings_mem (ow:List Turn) (lk:List (List Turn)):∀r∈allRings (ptF ow lk) ow.length,(∀x∈r,x<ow.length)∧r.length≤ow.length:=ringsF_mem (ptF_closed ow lk) List.nodup_range fun _=>List.mem_range.1
theorem ringsF_length {g : List Nat → Nat → Nat} {n : Nat} (hg : ∀ L, Closed (g L) L) : ∀ {k : Nat} {L : List Nat}, L.Nodup → (∀ x ∈ L, x < n) → (ringsF g n k L).length ≤ n * k
  | 0,L,_,_=>by simp [ringsF]
  | k + 1, L, hd, hL => by
    rw [ringsF]
    split
    · simp
    · have h1:=ringsF_length hg (k:=k) (eraseAll_nodup (l:=(roundF (g L) L n).flatten) hd) (fun x hx=>hL x ((eraseAll_sub _ _).subset hx))
      have h2:(roundF (g L) L n).length≤n:=by
        have:=List.length_filterMap_le (fun i=>if i∈L then ringP (g L) n i else none) (List.range n)
        simpa [roundF] using this
      rw [List.length_append,Nat.mul_succ];omega
theorem allRings_length (ow:List Turn) (lk:List (List Turn)):(allRings (ptF ow lk) ow.length).length≤ow.length * ow.length:=by
  have:=ringsF_length (ptF_closed ow lk) (k:=ow.length) (n:=ow.length) List.nodup_range fun _=>List.mem_range.1
  simpa [allRings] using this
def giveK (ow:List Turn) (r:List Nat) (out:List Turn) (k:Nat):List Turn:=(List.range k).foldl (fun o j=>o.set (nth r j) (nth ow (nth r ((j+1) % r.length)))) out
def giveR (ow:List Turn) (rs:List (List Nat)) (out:List Turn):List Turn:=rs.foldl (fun o r=>giveK ow r o r.length) out
theorem giveK_succ (ow:List Turn) (r:List Nat) (out:List Turn) (k:Nat):giveK ow r out (k+1)=(giveK ow r out k).set (nth r k) (nth ow (nth r ((k+1) % r.length))):=by simp [giveK,List.range_succ]
theorem giveK_length (ow:List Turn) (r:List Nat) (out:List Turn):∀k,(giveK ow r out k).length=out.length
  | 0=>rfl
  | k+1=>by rw [giveK_succ,List.length_set,giveK_length ow r out k]
theorem giveR_snoc (ow:List Turn) (rs:List (List Nat)) (r:List Nat) (out:List Turn):giveR ow (rs++[r]) out=giveK ow r (giveR ow rs out) r.length:=by simp [giveR]
theorem giveR_length (ow:List Turn):∀(rs:List (List Nat)) (out:List Turn),(giveR ow rs out).length=out.length
  | [],_=>rfl
  | r :: rs,out=>by
    have:=giveR_length ow rs (giveK ow r out r.length)
    rw [giveK_length] at this;exact this
def swapT (ow:List Turn) (lk:List (List Turn)):List Turn:=if checkT ow lk=0 then giveR ow (allRings (ptF ow lk) ow.length) (List.replicate ow.length (0,0)) else []
theorem giveK_at {ow:List Turn}{r:List Nat}{out:List Turn}{k:Nat}(hk:k<r.length){n:Nat}(hn:n=(k+1) % r.length) (h2:n<r.length) (h1:r[n]<ow.length):giveK ow r out (k+1)=(giveK ow r out k).set r[k] ow[r[n]]:=by
  subst hn
  rw [giveK_succ,nth_get hk,nth_get h2,nth_get h1]
attribute [local simp] giveK_length giveR_length
theorem Swap_ok (ow:List Turn) (lk:List (List Turn)):ACalls Tryd.prog 12 [trade ow lk] [] (fun r o=>r = .tup [turns (swapT ow lk),I (checkT ow lk)]∧o=[]):=by
 have F:=Fx.nil
 refine ent Tryd.func12 Tryd.ntmps12 Tryd.results12 ?_
 refine rK [1] ?_
 refine W.seqk fun K1 hK1=>?_
 refine W.seqR ?_
 refine oN 1 ?_
 refine oC [] ?_
 refine ct (W6.Check_ok _ _) ?_
 refine oN 1 ?_
 refine oK [1,4] ?_
 refine rK [1,4,13] ?_
 refine it (fun hc1=>?_) (fun hc1=>?_)
 ·
  try simp at hc1
  replace F:=F.add hc1
  refine rK [2,3] ?_
  refine W.ret ?_
  refine tr ?_
  clear hK1 K1
  refine er true [] [] ?_
  exact ⟨by rw [swapT,if_neg hc1];rfl,rfl⟩
 ·
  try simp at hc1
  replace F:=F.add hc1
  have hv:ValidT ow lk:=checkT_zero.1 (by simpa using hc1)
  have hn8:ow.length≤8:=hv.most
  have hnn:(ow.length:Int)≤16777216:=by omega
  replace F:=F.add hv |>.add hn8 |>.add hnn
  refine W.skip ?_
  refine hK1 _ ?_
  clear hK1 K1
  refine rK [1,5] ?_
  refine W.seqk fun K2 hK2=>?_
  refine W.seqR ?_
  refine oN 1 ?_
  refine oC [] ?_
  refine ct (rings_ok ow lk hv) ?_
  refine oN 2 ?_
  refine oK [1,5,20,21,22] ?_
  refine W.block ?_
  have qml:=allRings_mem ow lk
  have qll:(allRings (ptF ow lk) ow.length).length≤64:=Nat.le_trans (allRings_length ow lk) (Nat.mul_le_mul hn8 hn8)
  have q1:(List.replicate ow.length (.agg [I 0,I 0]):List AV)=(List.replicate ow.length ((0,0):Turn)).map T:=by simp
  try rw [q1]
  refine lp (α:=Nat) [1,5,20,21] [27,41] [144] (fun j=>[(22,I j)]) (fun j=>[(144,.row true 53 2 ((giveR ow ((allRings (ptF ow lk) ow.length).take j) (List.replicate ow.length (0,0))).map T))]) (fun j=>j≤(allRings (ptF ow lk) ow.length).length) (fun j=>(allRings (ptF ow lk) ow.length).length-j) 0 ?_ ?_ v0 ?_
  ·
   exact v1
  ·
   try (simp [Fx.get F])
   all_goals (
    exact q1
   )
  ·
   intro j hI0
   simp only [List.cons_append,List.nil_append]
   try dsimp only at hI0
   replace F:=F.add hI0
   refine rK [1,5,20,21,22,23] ?_
   refine W.seqk fun K3 hK3=>?_
   refine it (fun hc2=>?_) (fun hc2=>?_)
   ·
    try simp at hc2
    replace F:=F.add hc2
    refine W.skip ?_
    refine hK3 _ ?_
    clear hK3 K3
    refine W.seqk fun K4 hK4=>?_
    refine W.block ?_
    refine rK [1,5,7,20,21,22] ?_
    refine rK [1,5,7,20,21,22,26,27,28] ?_
    refine W.block ?_
    have qmm:=qml _ (List.getElem_mem hc2)
    refine lp (α:=Nat) [1,5,7,20,21,22,26,27] [41] [144] (fun k=>[(28,I k)]) (fun k=>[(144,.row true 53 2 ((giveK ow (allRings (ptF ow lk) ow.length)[j] (giveR ow ((allRings (ptF ow lk) ow.length).take j) (List.replicate ow.length (0,0))) k).map T))]) (fun k=>k≤(allRings (ptF ow lk) ow.length)[j].length) (fun k=>(allRings (ptF ow lk) ow.length)[j].length-k) 0 ?_ ?_ v0 ?_
    ·
     exact v1
    ·
     try (simp [Fx.get F])
     all_goals (
      rfl
     )
    ·
     intro k hI1
     simp only [List.cons_append,List.nil_append]
     try dsimp only at hI1
     replace F:=F.add hI1
     refine rK [1,5,7,20,21,22,26,27,28,29] ?_
     refine W.seqk fun K5 hK5=>?_
     refine it (fun hc3=>?_) (fun hc3=>?_)
     ·
      try simp at hc3
      replace F:=F.add hc3
      refine W.skip ?_
      refine hK5 _ ?_
      clear hK5 K5
      refine W.seqk fun K6 hK6=>?_
      refine W.block ?_
      refine rK [1,5,7,8,9,20,21,22,26,27,28] ?_
      obtain ⟨n,qn⟩:∃n,n=(k+1) % (allRings (ptF ow lk) ow.length)[j].length:=⟨_,rfl⟩
      have hmod:Int.tmod ((k:Int)+1) (((allRings (ptF ow lk) ow.length)[j].length:Nat):Int)=(n:Int):=by rw [qn];rfl
      have hm0:¬(allRings (ptF ow lk) ow.length)[j].length=0:=by omega
      have hml:n<(allRings (ptF ow lk) ow.length)[j].length:=qn▸Nat.mod_lt _ (by omega)
      have hx1:(allRings (ptF ow lk) ow.length)[j][k]<ow.length:=qmm.1 _ (List.getElem_mem hc3)
      have hx2:(allRings (ptF ow lk) ow.length)[j][n]<ow.length:=qmm.1 _ (List.getElem_mem hml)
      have hgv:=giveK_at (ow:=ow) (out:=giveR ow ((allRings (ptF ow lk) ow.length).take j) (List.replicate ow.length (0,0))) hc3 qn hml hx2
      replace F:=F.add hmod |>.add hm0 |>.add hml |>.add hx1 |>.add hx2 |>.add hgv
      refine wDe 14 [] [[],[],[],[2],[],[],[5],[],[7],[7,8,5,6],[6,5,8,7,9,4],[4,9,7,8,5,6,10],[10,6,5,8,7,9,4,11,2,3],[3,2,11,4,9,7,8,5,6,10,12],[13,12,11,10,9,8,7,6,5,4,3,2,1,0],[0,1,2,3,4,5,6,7,8,9,10,11,12,13,14]] ?_
      refine dBw [([34,35,36,37,38,39,40,41,42,43,44,45,46],[],[]),([33,35,36,37,38,39,40,41,42,43,44,45,46],[false],[]),([33,34,37,38,39,40,41,42,43,44],[false,false],[]),([33,34,37,38,39,40,41,42,43,44],[false,false,true],[]),([33,34,35,36,38,39,40,41,42],[false,false,false,false],[]),([33,34,35,36,37,40,41],[false,false,false,false,false],[]),([33,34,35,36,37,40,41],[false,false,false,false,false,true],[]),([33,34,35,36,37,38,39],[false,false,false,false,false,false,false],[]),([33,34,35,36,37,38,39],[false,false,false,false,false,false,false,true],[]),([33,34,35,36,37],[false,false,false,false,false,true,true,true,true],[]),([33,34,35,36],[false,false,false,false,true,true,true,true,true,true],[]),([33,34,35,36],[false,false,false,false,true,true,true,true,true,true,true],[]),([33,34],[false,false,true,true,true,true,true,true,true,true,true,true],[]),([33,34],[false,false,true,true,true,true,true,true,true,true,true,true,true],[])] 0 14 ?_
      refine dD ?_
      refine oN 2 ?_
      refine WOps.endK ?_
      refine hK6 _ ?_
      clear hK6 K6
      refine rEw ?_
      refine ⟨k+1,lf0,v0,v0⟩
     ·
      try simp at hc3
      replace F:=F.add hc3
      refine W.exit ?_
      refine hK4 _ ?_
      clear hK5 K5 hK4 K4
      refine rEw ?_
      refine ⟨j+1,lf ?_ ?_,v0,v0⟩
      ·
       exact v1
      ·
       try (simp [Fx.get F])
       all_goals (
        obtain rfl:k=(allRings (ptF ow lk) ow.length)[j].length:=by omega
        rw [List.take_succ_eq_append_getElem hc2,giveR_snoc]
       )
   ·
    try simp at hc2
    replace F:=F.add hc2
    refine W.exit ?_
    refine hK2 _ ?_
    clear hK3 K3 hK2 K2
    refine rK [2,3] ?_
    refine W.ret ?_
    refine er true [144] [] ?_
    rw [List.take_of_length_le hc2,List.take_of_length_le (by simp)]
    exact ⟨by rw [swapT,if_pos hc1,hc1],rfl⟩
def chkH (ow:List Turn):List Turn→List Turn→Int
  | _,[]=>0
  | done,x :: r=>if x ∉ ow then 3 else if x∈done then 4 else chkH ow (done++[x]) r
theorem chkH_at {ow held:List Turn}{i:Nat}(h:i<held.length):chkH ow (held.take i) (held.drop i)=if held[i] ∉ ow then 3 else if held[i]∈held.take i then 4 else chkH ow (held.take (i+1)) (held.drop (i+1)):=by
  rw [List.drop_eq_getElem_cons h,chkH,←List.take_succ_eq_append_getElem h]
def heldT (ow:List Turn) (lk:List (List Turn)) (held:List Turn):Int:=if checkT ow lk≠0 then checkT ow lk else if held.length≠ow.length then 2 else chkH ow [] held
def WfT (x:Turn):Prop:=(Lit.int .i64 x.1).wf=true∧(Lit.int .i64 x.2).wf=true
theorem CheckHeld_ok (ow:List Turn) (lk:List (List Turn)) (held:List Turn) (hwf:ValidT ow lk→∀x∈held,WfT x):ACalls Tryd.prog 33 [trade ow lk,turns held] [] (fun r o=>r=I (heldT ow lk held)∧o=[]):=by
 refine ACalls.len (l:=held.map T) (by simp) ⟨_,Tryd.func33,by kernel_rfl,by kernel_rfl⟩ fun hhl=>?_
 simp [maxLen_val] at hhl
 have F:=Fx.nil
 refine ent Tryd.func33 Tryd.ntmps33 Tryd.results33 ?_
 refine rK [1,2] ?_
 refine W.seqk fun K1 hK1=>?_
 refine W.seqR ?_
 refine oN 1 ?_
 refine oC [] ?_
 refine ct (W6.Check_ok _ _) ?_
 refine oN 1 ?_
 refine oK [1,2,5] ?_
 refine rK [1,2,5,14] ?_
 refine it (fun hc1=>?_) (fun hc1=>?_)
 ·
  try simp at hc1
  replace F:=F.add hc1
  refine rK [4] ?_
  refine W.ret ?_
  refine tr ?_
  clear hK1 K1
  refine er false [] [] ?_
  exact ⟨by rw [heldT,if_pos hc1],rfl⟩
 ·
  try simp at hc1
  replace F:=F.add hc1
  have hv:ValidT ow lk:=checkT_zero.1 (by simpa using hc1)
  have hn8:ow.length≤8:=hv.most
  replace hwf:=hwf hv
  replace F:=F.add hv |>.add hn8
  refine W.skip ?_
  refine hK1 _ ?_
  clear hK1 K1
  refine W.seqk fun K2 hK2=>?_
  refine rK [1,2,21] ?_
  refine it (fun hc2=>?_) (fun hc2=>?_)
  ·
   try simp at hc2
   replace F:=F.add hc2
   refine rK [4] ?_
   refine W.ret ?_
   refine tr ?_
   clear hK2 K2
   refine er false [] [] ?_
   exact ⟨by rw [heldT,if_neg (by omega),if_pos (by omega)],rfl⟩
  ·
   try simp at hc2
   replace F:=F.add hc2
   refine W.skip ?_
   refine hK2 _ ?_
   clear hK2 K2
   refine W.seqR ?_
   refine oN 1 ?_
   refine oC [] ?_
   refine ct (owners_ok ow lk hv.owns hv.most) ?_
   refine oN 1 ?_
   refine oK [1,6] ?_
   refine W.seqk fun K3 hK3=>?_
   refine rK [1,6,24,25,26] ?_
   refine W.block ?_
   refine lpa (α:=Nat) [1,6,24,25] [8,43] [] (fun i=>[(26,I i)]) (fun i=>[]) (fun i=>i≤held.length∧heldT ow lk held=chkH ow (held.take i) (held.drop i)) (fun i=>held.length-i) 0 ?_ ?_
   ·
    exact ⟨by omega,by rw [heldT,if_neg (by omega),if_neg (by omega)];rfl⟩
   ·
    intro i hI0
    simp only [List.cons_append,List.nil_append]
    try dsimp only at hI0
    obtain ⟨hil,he⟩:=hI0
    replace F:=F.add hil
    refine rK [1,6,24,25,26,27] ?_
    refine W.seqk fun K4 hK4=>?_
    refine it (fun hc3=>?_) (fun hc3=>?_)
    ·
     try simp at hc3
     replace F:=F.add hc3
     refine W.skip ?_
     refine hK4 _ ?_
     clear hK4 K4
     refine W.seqk fun K5 hK5=>?_
     refine W.block ?_
     have hih:i<held.length:=by omega
     have hw1:(Lit.int .i64 held[i].1).wf=true:=(hwf _ (List.getElem_mem hih)).1
     have hw2:(Lit.int .i64 held[i].2).wf=true:=(hwf _ (List.getElem_mem hih)).2
     have hgm:getM (.agg #[.int .i64 held[i].1,.int .i64 held[i].2]) (ownEk 0 ow)=if held[i]∈ow then some (I ((0+ow.idxOf held[i]:Nat):Int)) else none:=getM_own held[i] ow 0
     replace F:=F.add hih |>.add hw1 |>.add hw2 |>.add hgm
     refine rK [1,6,7,8,24,25,26] ?_
     refine W.seqk fun K6 hK6=>?_
     by_cases hmem:held[i]∈ow
     ·
      replace F:=F.add hmem
      refine rK [1,6,7,8,10,24,25,26] ?_
      refine rK [1,6,7,8,24,25,26,38] ?_
      refine cF ?_
      refine W.skip ?_
      refine hK6 _ ?_
      clear hK6 K6
      refine wD 4 [] [[],[],[1,0],[],[3,0,1,2]] ?_
      refine dB [([40,42],[],[]),([39,42],[false],[]),([42],[true,true],[]),([39,40,41],[false,false,false],[])] 0 4 ?_
      refine dD ?_
      refine oC [] ?_
      refine ct (Contains_ok (held.take i) _ _) ?_
      refine oK [1,6,24,25,26,43] ?_
      refine it (fun hc5=>?_) (fun hc5=>?_)
      ·
       try simp at hc5
       replace F:=F.add hc5
       refine rK [4] ?_
       refine W.ret ?_
       refine br (tr (tr (br (tr ?_))))
       clear hK5 K5 hK3 K3
       refine er false [] [] ?_
       exact ⟨by rw [he,chkH_at hih,if_neg (fun h=>h hmem),if_pos (by simp_all)],rfl⟩
      ·
       try simp at hc5
       replace F:=F.add hc5
       refine W.skip ?_
       refine hK5 _ ?_
       clear hK5 K5
       refine rEw ?_
       refine ⟨i+1,lf0, ?_,v0⟩
       ·
        exact ⟨by omega,by rw [he,chkH_at hih,if_neg (fun h=>h hmem),if_neg (by simp_all)]⟩
     ·
      replace F:=F.add hmem
      refine rK [1,6,7,8,10,24,25,26] ?_
      refine rK [1,6,7,8,24,25,26,38] ?_
      refine cT ?_
      refine rK [4] ?_
      refine W.ret ?_
      refine tr (br (tr (tr (br (tr ?_)))))
      clear hK6 K6 hK5 K5 hK3 K3
      refine er false [] [] ?_
      exact ⟨by rw [he,chkH_at hih,if_pos hmem],rfl⟩
    ·
     try simp at hc3
     replace F:=F.add hc3
     refine W.exit ?_
     refine hK3 _ ?_
     clear hK4 K4 hK3 K3
     refine rK [4] ?_
     refine W.ret ?_
     refine er false [] [] ?_
     exact ⟨by rw [he,List.drop_of_length_le (by omega)];rfl,rfl⟩
theorem CloneI_ok (x:Int) (xs:List Int) (hb:xs.length≤100000):ACalls Tryd.prog 40 [ints (x :: xs)] [] (fun r o=>r = .own 20000 0 (xs.length+1)∧o=[(20000,.row true 3 1 ((x :: xs).map I))]):=by
 have F:=Fx.nil
 refine ent Tryd.func40 Tryd.ntmps40 Tryd.results40 ?_
 refine rK [0] ?_
 refine W.seqk fun K1 hK1=>?_
 refine rK [0,4] ?_
 refine cF ?_
 refine W.skip ?_
 refine hK1 _ ?_
 clear hK1 K1
 refine rKw [2] ?_
 refine W.ret ?_
 exact er0 false [] [(20000,40)]
end Go.Sim.W6
