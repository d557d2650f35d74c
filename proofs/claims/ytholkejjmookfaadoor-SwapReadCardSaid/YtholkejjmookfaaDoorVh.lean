/- What pleases. -/
import Derived.Test.YtholkejjmookfaaDoorVg
namespace Go.Sim.W6
open Go.Proofs Go.Plain
set_option maxRecDepth 100000
set_option linter.unusedSimpArgs false
set_option linter.unusedVariables false
attribute [-simp] List.map_set List.map_take List.map_drop
attribute [local simp] take_map' drop_map'
def rk (ow:List Turn) (lk:List (List Turn)) (i:Nat) (x:Turn):Int:=rankI (nth lk i) (nth ow i) x
theorem rk_eq {ow:List Turn}{lk:List (List Turn)}{i:Nat}(h1:i<ow.length) (h2:i<lk.length) (x:Turn):rankI lk[i] ow[i] x=rk ow lk i x:=by rw [rk,nth_get h1,nth_get h2]
theorem rank_ok' (ow:List Turn) (lk:List (List Turn)) (i:Nat) (x:Turn) (hi:i<ow.length) (hk:i<lk.length):ACalls Tryd.prog 37 [trade ow lk,I i,.agg [I x.1,I x.2]] [] (fun r o=>r=I (rk ow lk i x)∧o=[]):=by
  have:=rank_ok ow lk i x.1 x.2 hi hk
  rwa [rk_eq hi hk] at this
def more (ow:List Turn) (lk:List (List Turn)) (held:List Turn) (a b:Nat):Bool:=decide (rk ow lk a (nth held b)<rk ow lk a (nth held a))
theorem likes_ok (ow:List Turn) (lk:List (List Turn)) (held:List Turn) (a b:Nat) (ha:a<ow.length) (hk:a<lk.length) (hah:a<held.length) (hbh:b<held.length):ACalls Tryd.prog 36 [I a,I b,.ptr 10000 0 0,.ptr 10001 0 0] [(10000,.row false 27 2 [trade ow lk]),(10001,.row false 24 1 [turns held])] (fun r o=>r=B (more ow lk held a b)∧o=[(10000,.row false 27 2 [trade ow lk]),(10001,.row false 24 1 [turns held])]):=by
 have F:=Fx.nil
 replace F:=F.add ha |>.add hk |>.add hah |>.add hbh
 refine ent Tryd.func36 Tryd.ntmps36 Tryd.results36 ?_
 refine rK [0,1,2,3] ?_
 refine wD 13 [] [[],[],[],[],[3,2],[2,3,4],[4,3,2,5,1,0],[],[],[],[],[10,9],[9,10,11],[0,1,5,2,3,4,6,11,10,9,12,8,7],[7,8,12,9,10,11,13,0,1,5,2,3,4,6],[6,4,3,2,5,1,0,13,11,10,9,12,8,7,14]] ?_
 refine dB [([8,9,10,11,12,14,15,16,17,18,19],[],[]),([7,9,10,11,12,14,15,16,17,18,19],[false],[]),([7,8,10,14,15,16,17,18,19],[false,false],[]),([7,8,9,14,15,16,17,18,19],[false,false,false],[]),([7,8,14,15,16,17,18,19],[false,false,true,true],[]),([7,8,14,15,16,17,18,19],[false,false,true,true,true],[])] 7 6 ?_
 refine dC [14,15,16,17,18,19] [true,true,true,true,true,true] [] [] ?_
 refine cd (rank_ok' ow lk a held[b] ha hk) ?_
 refine dB [([7,8,9,10,11,12,13,15,16,17,18,19],[false,false,false,false,false,false,false],[]),([7,8,9,10,11,12,13,14,16,17,18,19],[false,false,false,false,false,false,false,false],[]),([7,8,9,10,11,12,13,14,15,17],[false,false,false,false,false,false,false,false,false],[]),([7,8,9,10,11,12,13,14,15,16],[false,false,false,false,false,false,false,false,false,false],[]),([7,8,9,10,11,12,13,14,15],[false,false,false,false,false,false,false,false,false,true,true],[]),([7,8,9,10,11,12,13,14,15],[false,false,false,false,false,false,false,false,false,true,true,true],[])] 0 13 ?_
 refine dD ?_
 refine oC [] ?_
 refine ct (rank_ok' ow lk a held[a] ha hk) ?_
 refine oN 2 ?_
 refine oK [6] ?_
 refine W.ret ?_
 refine er false [] [(10000,10000),(10001,10001)] ?_
 exact ⟨by rw [more,nth_get hah,nth_get hbh],rfl⟩
def firstNE (g:Nat→List Nat):List Nat→List Nat
  | []=>[]
  | i :: r=>if g i=[] then firstNE g r else g i
def seekP (lkf:Nat→Nat→Bool) (n many:Nat):Nat→List Nat→List Nat
  | 0,_=>[]
  | f+1,l=>if l.length=many then (if lkf (nth l (l.length-1)) (nth l 0) then l else []) else firstNE (fun i=>if i∈l∨lkf (nth l (l.length-1)) i=false then [] else seekP lkf n many f (l++[i])) (List.range' (nth l 0+1) (n-(nth l 0+1)))
theorem range'_next {i n:Nat}(h:i<n):List.range' i (n-i)=i :: List.range' (i+1) (n-(i+1)):=by
  rw [show n-i=(n-(i+1))+1 by omega,List.range'_succ]
theorem range'_done {i n:Nat}(h:n≤i):List.range' i (n-i)=[]:=by rw [show n-i=0 by omega];rfl
theorem seekP_full {lkf:Nat→Nat→Bool}{n many f m:Nat}{l:List Nat}(hlm:l.length=m+1) (h:l.length=many) (hml:m<l.length) (h0:0<l.length):seekP lkf n many (f+1) l=if lkf l[m] l[0] then l else []:=by
  rw [seekP,if_pos h,show l.length-1=m by omega,nth_get hml,nth_get h0]
theorem seekP_go {lkf:Nat→Nat→Bool}{n many f m:Nat}{l:List Nat}(hlm:l.length=m+1) (h:l.length≠many) (hml:m<l.length) (h0:0<l.length):seekP lkf n many (f+1) l=firstNE (fun i=>if i∈l∨lkf l[m] i=false then [] else seekP lkf n many f (l++[i])) (List.range' (l[0]+1) (n-(l[0]+1))):=by
  rw [seekP,if_neg h,show l.length-1=m by omega,nth_get hml,nth_get h0]
theorem firstNE_skip {g:Nat→List Nat}{i n:Nat}(h:i<n) (hg:g i=[]):firstNE g (List.range' i (n-i))=firstNE g (List.range' (i+1) (n-(i+1))):=by
  rw [range'_next h,firstNE,if_pos hg]
theorem firstNE_hit {g:Nat→List Nat}{i n:Nat}(h:i<n) (hg:g i≠[]):firstNE g (List.range' i (n-i))=g i:=by
  rw [range'_next h,firstNE,if_neg hg]
theorem firstNE_done {g:Nat→List Nat}{i n:Nat}(h:n≤i):firstNE g (List.range' i (n-i))=[]:=by rw [range'_done h];rfl
def optR (l:List Nat):AV:=if l=[] then .val (.slice none 0 0) else rgV l
theorem optR_ren (ρ:Nat→Nat) (l:List Nat):(optR l).ren ρ=optR l:=by unfold optR;split<;>rfl
attribute [simp] optR_ren
theorem optR_cons {l:List Nat}{x:Nat}{xs:List Nat}(h:l=x :: xs):optR l = .imm (nI x :: xs.map nI):=by subst h;rfl
theorem optR_ne {l:List Nat}(h:l≠[]):optR l=rgV l:=if_neg h
theorem CloneN_ok (l:List Nat) (h0:0<l.length) (hb:l.length≤100000):ACalls Tryd.prog 40 [rgV l] [] (fun r o=>r = .own 20000 0 l.length∧o=[(20000,.row true 3 1 (l.map nI))]):=by
  cases l with
  | nil=>simp at h0
  | cons x xs =>
    have:=CloneI_ok (x:Int) (xs.map fun (n:Nat)=>(n:Int)) (by simp at hb ⊢;omega)
    simp only [ints,List.map_cons,List.map_map,List.length_map,Function.comp_def] at this
    simp only [rgV,List.map_cons,List.length_cons,nI_def]
    exact this
theorem ring_step (ow:List Turn) (lk:List (List Turn)) (held:List Turn) (hv:ValidT ow lk) (hh:held.length=ow.length) (many f m:Nat) (l:List Nat) (hlm:l.length=m+1) (hl:∀y∈l,y<ow.length) (hlen:l.length≤many) (hmany:many≤ow.length) (ih:∀l' : List Nat,l'.length=l.length+1→(∀y∈l',y<ow.length)→l'.length≤many→ACalls Tryd.prog 38 [rgV l',I many,.ptr 10000 0 0,.ptr 10001 0 0,.ptr 10002 0 0] [(10000,.row false 84 1 [.clo 36 [.ptr 10001 0 0,.ptr 10003 0 0]]),(10001,.row false 27 2 [trade ow lk]),(10002,.row false 85 1 [.clo 38 [.ptr 10000 0 0,.ptr 10001 0 0,.ptr 10002 0 0]]),(10003,.row false 24 1 [turns held])] (fun r o=>r=optR (seekP (more ow lk held) ow.length many f l')∧o=[(10000,.row false 84 1 [.clo 36 [.ptr 10001 0 0,.ptr 10003 0 0]]),(10001,.row false 27 2 [trade ow lk]),(10002,.row false 85 1 [.clo 38 [.ptr 10000 0 0,.ptr 10001 0 0,.ptr 10002 0 0]]),(10003,.row false 24 1 [turns held])])):ACalls Tryd.prog 38 [rgV l,I many,.ptr 10000 0 0,.ptr 10001 0 0,.ptr 10002 0 0] [(10000,.row false 84 1 [.clo 36 [.ptr 10001 0 0,.ptr 10003 0 0]]),(10001,.row false 27 2 [trade ow lk]),(10002,.row false 85 1 [.clo 38 [.ptr 10000 0 0,.ptr 10001 0 0,.ptr 10002 0 0]]),(10003,.row false 24 1 [turns held])] (fun r o=>r=optR (seekP (more ow lk held) ow.length many (f+1) l)∧o=[(10000,.row false 84 1 [.clo 36 [.ptr 10001 0 0,.ptr 10003 0 0]]),(10001,.row false 27 2 [trade ow lk]),(10002,.row false 85 1 [.clo 38 [.ptr 10000 0 0,.ptr 10001 0 0,.ptr 10002 0 0]]),(10003,.row false 24 1 [turns held])]):=by
 have F:=Fx.nil
 replace F:=F.add hlm
 refine ent Tryd.func38 Tryd.ntmps38 Tryd.results38 ?_
 have hn8:ow.length≤8:=hv.most
 have hm1:(m:Int)<(m:Int)+1:=by omega
 have hmy:0<many:=by omega
 have h0l:0<l.length:=by omega
 have hml:m<l.length:=by omega
 have hs:lk.length=ow.length:=hv.same
 have qa:l[m]<ow.length:=hl _ (List.getElem_mem hml)
 have qb:l[0]<ow.length:=hl _ (List.getElem_mem h0l)
 replace F:=F.add hn8 |>.add hm1 |>.add hmy |>.add h0l |>.add hml |>.add hs
 refine rK [0,1,2,3,4] ?_
 refine rKw [0,1,2,3,4,8] ?_
 refine W.seqk fun K1 hK1=>?_
 refine rK [0,1,2,3,4,8,20] ?_
 refine it (fun hc1=>?_) (fun hc1=>?_)
 ·
  try simp at hc1
  replace F:=F.add hc1
  refine W.seqk fun K2 hK2=>?_
  refine wD 5 [] [[],[],[],[2],[2,3],[3,2,4,1,0]] ?_
  refine dB [([22,23,24,25],[],[]),([21,23,24,25],[false],[]),([21,22],[false,false],[]),([21,22],[false,false,true],[]),([21,22],[false,false,true,true],[])] 0 5 ?_
  refine dD ?_
  refine oC [(10000,10001),(10001,10003)] ?_
  refine ct (likes_ok ow lk held l[m] l[0] (by omega) (by omega) (by omega) (by omega)) ?_
  refine oK [0,26] ?_
  refine it (fun hc2=>?_) (fun hc2=>?_)
  ·
   try simp at hc2
   replace F:=F.add hc2
   refine rK [7] ?_
   refine W.ret ?_
   refine tr (tr ?_)
   clear hK2 K2 hK1 K1
   refine er false [] [(10000,10000),(10001,10001),(10002,10002),(10003,10003)] ?_
   exact ⟨by rw [seekP_full hlm (by omega) hml h0l,if_pos hc2,optR_ne (by intro h;simp [h] at h0l)],rfl⟩
  ·
   try simp at hc2
   replace F:=F.add hc2
   refine W.skip ?_
   refine hK2 _ ?_
   clear hK2 K2
   refine rK [7] ?_
   refine W.ret ?_
   refine tr ?_
   clear hK1 K1
   refine er false [] [(10000,10000),(10001,10001),(10002,10002),(10003,10003)] ?_
   exact ⟨by rw [seekP_full hlm (by omega) hml h0l,if_neg (by simp [hc2])];rfl,rfl⟩
 ·
  try simp at hc1
  replace F:=F.add hc1
  refine W.skip ?_
  refine hK1 _ ?_
  clear hK1 K1
  refine W.seqk fun K3 hK3=>?_
  refine rKw [0,1,2,3,4,8,9] ?_
  refine W.block ?_
  refine lpa (α:=Nat) [0,1,2,3,4,8] [35,41,46,51,53,54,56] [] (fun i=>[(9,I i)]) (fun i=>[]) (fun i=>i≤ow.length∧l[0]+1≤i∧seekP (more ow lk held) ow.length many (f+1) l=firstNE (fun i=>if i∈l∨more ow lk held l[m] i=false then [] else seekP (more ow lk held) ow.length many f (l++[i])) (List.range' i (ow.length-i))) (fun i=>ow.length-i) (l[0]+1) ?_ ?_
  ·
   exact ⟨by omega,by omega,seekP_go hlm (by omega) hml h0l⟩
  ·
   intro i hI0
   simp only [List.cons_append,List.nil_append]
   try dsimp only at hI0
   obtain ⟨hin,hi0,he⟩:=hI0
   replace F:=F.add hin |>.add hi0
   refine W.seqk fun K4 hK4=>?_
   refine rK [0,1,2,3,4,8,9,36] ?_
   refine it (fun hc3=>?_) (fun hc3=>?_)
   ·
    try simp at hc3
    replace F:=F.add hc3
    refine W.skip ?_
    refine hK4 _ ?_
    clear hK4 K4
    refine W.seqk fun K5 hK5=>?_
    refine W.block ?_
    refine W.seqk fun K6 hK6=>?_
    by_cases hil:i∈l
    ·
     replace F:=F.add hil
     refine W.seqR ?_
     refine oN 2 ?_
     refine oC [] ?_
     refine ct (ContainsN_ok l i) ?_
     refine oN 1 ?_
     refine gF ?_
     refine gF ?_
     refine gF ?_
     refine gF ?_
     refine gF ?_
     refine oN 1 ?_
     refine oK [0,1,2,3,4,8,9,48] ?_
     refine cT ?_
     refine W.exit ?_
     refine hK5 _ ?_
     clear hK6 K6 hK5 K5
     refine rEw ?_
     refine ⟨i+1,lf0, ?_,v0⟩
     ·
      exact ⟨by omega,by omega,by rw [he,firstNE_skip hc3 (by simp_all)]⟩
    ·
     replace F:=F.add hil
     refine W.seqR ?_
     refine oN 2 ?_
     refine oC [] ?_
     refine ct (ContainsN_ok l i) ?_
     refine oN 1 ?_
     refine gT ?_
     refine gT ?_
     refine gT ?_
     refine gC [(10000,10001),(10001,10003)] ?_
     refine ct (likes_ok ow lk held l[m] i (by omega) (by omega) (by omega) (by omega)) ?_
     refine gT ?_
     refine oN 1 ?_
     refine oK [0,1,2,3,4,8,9,48] ?_
     refine it (fun hc5=>?_) (fun hc5=>?_)
     ·
      try simp at hc5
      replace F:=F.add hc5
      refine W.exit ?_
      refine hK5 _ ?_
      clear hK6 K6 hK5 K5
      refine rEw ?_
      refine ⟨i+1,lf0, ?_,v0⟩
      ·
       exact ⟨by omega,by omega,by rw [he,firstNE_skip hc3 (by simp_all)]⟩
     ·
      try simp at hc5
      replace F:=F.add hc5
      refine W.skip ?_
      refine hK6 _ ?_
      clear hK6 K6
      have htk:List.take (m+1+1) (List.map nI l++[I (i:Int)])=List.map nI l++[I (i:Int)]:=List.take_of_length_le (by simp;omega)
      have ihh:=ih (l++[i]) (by simp) (by intro y hy;rcases List.mem_append.1 hy with h | h;exact hl y h;simp at h;omega) (by simp;omega)
      simp only [rgV,List.map_append,List.map_cons,List.map_nil,nI_def] at ihh
      replace F:=F.add htk
      refine wD 7 [(5,[408])] [[],[],[1],[],[3],[3,4,1,2],[],[6,2,1,4,3,5,0],[0,5,3,4,1,2,6,7]] ?_
      refine dB [([50,51,52,53,54,55],[],[408]),([49,52,53,55],[false],[])] 5 2 ?_
      refine dC [49,52,53,55] [false,true] [] [] ?_
      refine cd (CloneN_ok l (by omega) (by omega)) ?_
      refine dB [([49,50,51,55],[false,false,false],[]),([49,50,51,55],[false,false,false,true],[])] 2 5 ?_
      refine dAw [49,55] [false,true,true,true,true] [] [408] ?_
      refine dB [([49,50,51,52,53,54],[false,false,false,false,false,false],[408])] 0 7 ?_
      refine dD ?_
      refine fz 432 ?_
      refine oC [(10000,10000),(10001,10001),(10002,10002),(10003,10003)] ?_
      refine ct (ihh) ?_
      refine oN 1 ?_
      refine oK [0,1,2,3,4,8,9,10] ?_
      by_cases hsk:seekP (more ow lk held) ow.length many f (l++[i])=[]
      ·
       replace F:=F.add hsk
       have hopt:optR (seekP (more ow lk held) ow.length many f (l++[i])) = .val (.slice none 0 0):=by rw [hsk];rfl
       replace F:=F.add hopt
       refine rK [0,1,2,3,4,8,9,10,58] ?_
       refine cF ?_
       refine W.skip ?_
       refine hK5 _ ?_
       clear hK5 K5
       refine rEw ?_
       refine ⟨i+1,lf0, ?_,v0⟩
       ·
        exact ⟨by omega,by omega,by rw [he,firstNE_skip hc3 (by simp_all)]⟩
      ·
       replace F:=F.add hsk
       obtain ⟨q0,q1,qq⟩:=List.exists_cons_of_ne_nil hsk
       have hopt:=optR_cons qq
       replace F:=F.add hopt
       refine rK [0,1,2,3,4,8,9,10,58] ?_
       refine cT ?_
       refine rK [7] ?_
       refine W.ret ?_
       refine br (tr (tr (br (tr ?_))))
       clear hK5 K5 hK3 K3
       refine er false [] [(10000,10000),(10001,10001),(10002,10002),(10003,10003)] ?_
       exact ⟨by rw [he,firstNE_hit hc3 (by simp [hil,hc5,hsk])];simp only [hil,hc5];simp [hopt],rfl⟩
   ·
    try simp at hc3
    replace F:=F.add hc3
    refine W.exit ?_
    refine hK3 _ ?_
    clear hK4 K4 hK3 K3
    refine rK [7] ?_
    refine W.ret ?_
    refine er false [] [(10000,10000),(10001,10001),(10002,10002),(10003,10003)] ?_
    exact ⟨by rw [he,firstNE_done (by omega)];rfl,rfl⟩
theorem ring_ok (ow:List Turn) (lk:List (List Turn)) (held:List Turn) (hv:ValidT ow lk) (hh:held.length=ow.length) (many:Nat) (hmany:many≤ow.length):∀(f:Nat) (l:List Nat),1≤l.length→(∀y∈l,y<ow.length)→l.length≤many→many<f+l.length →
    ACalls Tryd.prog 38 [rgV l,I many,.ptr 10000 0 0,.ptr 10001 0 0,.ptr 10002 0 0] [(10000,.row false 84 1 [.clo 36 [.ptr 10001 0 0,.ptr 10003 0 0]]),(10001,.row false 27 2 [trade ow lk]),(10002,.row false 85 1 [.clo 38 [.ptr 10000 0 0,.ptr 10001 0 0,.ptr 10002 0 0]]),(10003,.row false 24 1 [turns held])] (fun r o=>r=optR (seekP (more ow lk held) ow.length many f l)∧o=[(10000,.row false 84 1 [.clo 36 [.ptr 10001 0 0,.ptr 10003 0 0]]),(10001,.row false 27 2 [trade ow lk]),(10002,.row false 85 1 [.clo 38 [.ptr 10000 0 0,.ptr 10001 0 0,.ptr 10002 0 0]]),(10003,.row false 24 1 [turns held])])
  | 0,l,_,_,h,h'=>by omega
  | f+1,l,h1,h2,h3,h4=>ring_step ow lk held hv hh many f (l.length-1) l (by omega) h2 h3 hmany fun l' e1 e2 e3=>ring_ok ow lk held hv hh many hmany f l' (by omega) e2 e3 (by omega)
def pleaseM (lkf:Nat→Nat→Bool) (n many:Nat):List Nat:=firstNE (fun i=>seekP lkf n many many [i]) (List.range' 0 (n-0))
def pleaseL (lkf:Nat→Nat→Bool) (n:Nat):List Nat:=firstNE (fun many=>pleaseM lkf n many) (List.range' 2 (n+1-2))
def pleaseT (ow:List Turn) (lk:List (List Turn)) (held:List Turn):List Nat:=if heldT ow lk held=0 then pleaseL (more ow lk held) ow.length else []
theorem heldT_valid {ow:List Turn}{lk:List (List Turn)}{held:List Turn}(h:heldT ow lk held=0):ValidT ow lk∧held.length=ow.length:=by
  unfold heldT at h
  split at h
  · rename_i h1;exact absurd h h1
  · split at h
    · cases h
    · rename_i h1 h2
      exact ⟨checkT_zero.1 (by omega),by omega⟩
theorem Pleases_ok (ow:List Turn) (lk:List (List Turn)) (held:List Turn) (hwf:ValidT ow lk→∀x∈held,WfT x):ACalls Tryd.prog 15 [trade ow lk,turns held] [] (fun r o=>r = .tup [rgV (pleaseT ow lk held),I (heldT ow lk held)]∧o=[]):=by
 have F:=Fx.nil
 refine ent Tryd.func15 Tryd.ntmps15 Tryd.results15 ?_
 refine rK [2,3] ?_
 refine W.seqk fun K1 hK1=>?_
 refine W.seqR ?_
 refine oN 2 ?_
 refine oC [] ?_
 refine ct (W6.CheckHeld_ok _ _ _ (by assumption)) ?_
 refine oN 1 ?_
 refine oK [2,3,6] ?_
 refine rK [2,3,6,16] ?_
 refine it (fun hc1=>?_) (fun hc1=>?_)
 ·
  try simp at hc1
  replace F:=F.add hc1
  refine rK [4,5] ?_
  refine W.ret ?_
  refine tr ?_
  clear hK1 K1
  refine er true [] [] ?_
  exact ⟨by rw [pleaseT,if_neg hc1];rfl,rfl⟩
 ·
  try simp at hc1
  replace F:=F.add hc1
  obtain ⟨hv,hh⟩:=heldT_valid (by simpa using hc1)
  have hn8:ow.length≤8:=hv.most
  have hz:heldT ow lk held=0:=by simpa using hc1
  replace F:=F.add hn8 |>.add hz
  refine W.skip ?_
  refine hK1 _ ?_
  clear hK1 K1
  refine rK [2,7] ?_
  refine rK [2,7,8] ?_
  refine rK [2,8] ?_
  refine W.seqk fun K2 hK2=>?_
  refine rK [2,8,9] ?_
  refine W.block ?_
  refine lpa (α:=Nat) [2,8] [23,29,35,37] [] (fun many=>[(9,I many)]) (fun many=>[]) (fun many=>2≤many∧(many≤ow.length+1∨many=2)∧pleaseL (more ow lk held) ow.length=firstNE (fun many=>pleaseM (more ow lk held) ow.length many) (List.range' many (ow.length+1-many))) (fun many=>ow.length+1-many) 2 ?_ ?_
  ·
   exact ⟨by omega,by omega,rfl⟩
  ·
   intro many hI0
   simp only [List.cons_append,List.nil_append]
   try dsimp only at hI0
   obtain ⟨hm2,hmn,he⟩:=hI0
   replace F:=F.add hm2
   refine W.seqk fun K3 hK3=>?_
   refine rK [2,8,9,24] ?_
   refine it (fun hc2=>?_) (fun hc2=>?_)
   ·
    try simp at hc2
    replace F:=F.add hc2
    refine W.skip ?_
    refine hK3 _ ?_
    clear hK3 K3
    refine W.seqk fun K4 hK4=>?_
    refine W.block ?_
    refine rK [2,8,9,29,30] ?_
    refine W.block ?_
    refine lpa (α:=Nat) [2,8,9,29] [35,37] [] (fun i=>[(30,I i)]) (fun i=>[]) (fun i=>i≤ow.length∧pleaseM (more ow lk held) ow.length many=firstNE (fun i=>seekP (more ow lk held) ow.length many many [i]) (List.range' i (ow.length-i))) (fun i=>ow.length-i) 0 ?_ ?_
    ·
     exact ⟨by omega,rfl⟩
    ·
     intro i hI1
     simp only [List.cons_append,List.nil_append]
     try dsimp only at hI1
     obtain ⟨hin,he2⟩:=hI1
     replace F:=F.add hin
     refine rK [2,8,9,29,30,31] ?_
     refine W.seqk fun K5 hK5=>?_
     refine it (fun hc3=>?_) (fun hc3=>?_)
     ·
      try simp at hc3
      replace F:=F.add hc3
      refine W.skip ?_
      refine hK5 _ ?_
      clear hK5 K5
      refine W.seqk fun K6 hK6=>?_
      refine W.block ?_
      refine rK [2,8,9,10,29,30] ?_
      refine W.seqR ?_
      refine oN 4 ?_
      refine fz 280 ?_
      refine oC [(10000,56),(10001,16),(10002,64),(10003,24)] ?_
      refine ct (ring_ok ow lk held hv hh many (by omega) many [i] (by simp) (by simpa using hc3) (by simp;omega) (by simp)) ?_
      refine oN 1 ?_
      refine oK [2,8,9,11,29,30] ?_
      by_cases hsk:seekP (more ow lk held) ow.length many many [i]=[]
      ·
       replace F:=F.add hsk
       have hopt:optR (seekP (more ow lk held) ow.length many many [i]) = .val (.slice none 0 0):=by rw [hsk];rfl
       replace F:=F.add hopt
       refine rK [2,8,9,11,29,30,39] ?_
       refine cF ?_
       refine W.skip ?_
       refine hK6 _ ?_
       clear hK6 K6
       refine rEw ?_
       refine ⟨i+1,lf0, ?_,v0⟩
       ·
        exact ⟨by omega,by rw [he2,firstNE_skip hc3 hsk]⟩
      ·
       replace F:=F.add hsk
       obtain ⟨q0,q1,qq⟩:=List.exists_cons_of_ne_nil hsk
       have hopt:=optR_cons qq
       replace F:=F.add hopt
       refine rK [2,8,9,11,29,30,39] ?_
       refine cT ?_
       refine rK [4,5] ?_
       refine W.ret ?_
       refine br (tr (tr (br (br (tr (tr (br (tr ?_))))))))
       clear hK6 K6 hK4 K4 hK2 K2
       refine er true [] [] ?_
       exact ⟨by rw [pleaseT,if_pos hz,he,firstNE_hit (by omega) (by rw [he2,firstNE_hit hc3 hsk];exact hsk),he2,firstNE_hit hc3 hsk,qq,hz];rfl,rfl⟩
     ·
      try simp at hc3
      replace F:=F.add hc3
      refine W.exit ?_
      refine hK4 _ ?_
      clear hK5 K5 hK4 K4
      refine rEw ?_
      refine ⟨many+1,lf0, ?_,v0⟩
      ·
       exact ⟨by omega,by omega,by rw [he,firstNE_skip (by omega) (by rw [he2,firstNE_done (by omega)])]⟩
   ·
    try simp at hc2
    replace F:=F.add hc2
    refine W.exit ?_
    refine hK2 _ ?_
    clear hK3 K3 hK2 K2
    refine rK [4,5] ?_
    refine W.ret ?_
    refine er true [] [] ?_
    exact ⟨by rw [pleaseT,if_pos hz,he,firstNE_done (by omega),hz];rfl,rfl⟩
end Go.Sim.W6
