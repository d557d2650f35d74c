/- Seals: the reference's plan. -/
import Derived.Test.YtojjfnhjmfokhaaLm
import Derived.Test.YtojjfnhjmfokhaaLb
namespace Go.Sim
open Go.Proofs
set_option maxRecDepth 100000
set_option linter.unusedSimpArgs false
set_option linter.unusedVariables false
attribute [-simp] List.map_set List.map_take List.map_drop
attribute [simp] spn_eta T2_def T2_isData
theorem any_step {l:List Int}{a c:Int}{i:Nat}(h:i<l.length) (h1:(l.take i).any (fun n=>!inB n a c)=false) (h2:inB l[i] a c=true):(l.take (i+1)).any (fun n=>!inB n a c)=false:=by
  rw [List.take_succ_eq_append_getElem h,List.any_append,h1];simp [h2]
theorem any_hit {l:List Int}{a c:Int}{i:Nat}(h:i<l.length) (h2:¬inB l[i] a c=true):(l.any fun n=>!inB n a c)=true:=List.any_eq_true.2 ⟨_,List.getElem_mem h,by simpa using h2⟩
theorem sea7 {s:Sls}(h:s.lef=[]):seaC s=7:=by unfold seaC manyC;rw [h];rfl
theorem many_small {n:Int}(h0:n≠0) (h4:n≤4):manyC n 4=0:=by unfold manyC;rw [if_neg h0,if_neg (by omega)]
theorem sea6 {s:Sls}(h:4<(s.lef.length:Int)):seaC s=6:=by
  have e:manyC (s.lef.length:Int) 4=6:=by unfold manyC;rw [if_neg (by omega),if_pos h]
  unfold seaC;rw [e];rfl
theorem sea_form {s:Sls}(h1:¬s.lef=[]) (h2:s.lef.length≤4):seaC s=if s.eve.length≠s.lef.length then 2 else if inB s.days 0 10=false∨inB s.most 0 4=false∨(s.lef.any fun n=>!inB n (-1) 10)=true∨(s.eve.any fun n=>!inB n 0 10)=true then 1 else 0:=by
  have h0:s.lef.length≠0:=fun e=>h1 (List.length_eq_zero_iff.1 e)
  have e:manyC (s.lef.length:Int) 4=0:=many_small (by omega) (by omega)
  unfold seaC
  rw [e];rfl
theorem sea2 {s:Sls}(h1:¬s.lef=[]) (h2:s.lef.length≤4) (h3:s.eve.length≠s.lef.length):seaC s=2:=by rw [sea_form h1 h2,if_pos h3]
theorem sea1 {s:Sls}(h1:¬s.lef=[]) (h2:s.lef.length≤4) (h3:s.eve.length=s.lef.length) (h:inB s.days 0 10=false∨inB s.most 0 4=false∨(s.lef.any fun n=>!inB n (-1) 10)=true∨(s.eve.any fun n=>!inB n 0 10)=true):seaC s=1:=by rw [sea_form h1 h2,if_neg (fun n=>n h3),if_pos h]
theorem sea0 {s:Sls}(h1:¬s.lef=[]) (h2:s.lef.length≤4) (h3:s.eve.length=s.lef.length) (hd:inB s.days 0 10=true) (hm:inB s.most 0 4=true) (ha:(s.lef.any fun n=>!inB n (-1) 10)=false) (hb:(s.eve.any fun n=>!inB n 0 10)=false):seaC s=0:=by
  rw [sea_form h1 h2,if_neg (fun n=>n h3),if_neg]
  rw [hd,hm,ha,hb];simp
set_option maxHeartbeats 4000000 in
theorem rseaC_ok (s:Sls) (hl:s.lef.length≤1000) (he:s.eve.length≤1000):ACalls Try.prog 23 [slsV s] [] (fun r o=>r=I (seaC s)∧o=[]):=by
 have F:=Fx.nil
 replace F:=F.add hl |>.add he
 refine ent Try.func23 Try.ntmps23 Try.results23 ?_
 refine rK [1] ?_
 refine W.seqk fun K1 hK1=>?_
 refine rK [1,8] ?_
 refine it (fun hc1=>?_) (fun hc1=>?_)
 ·
  try simp at hc1
  replace F:=F.add hc1
  refine rK [2] ?_
  refine W.ret ?_
  refine tr ?_
  clear hK1 K1
  refine er false [] [] ?_
  exact ⟨congrArg I (sea7 hc1).symm,rfl⟩
 ·
  try simp at hc1
  replace F:=F.add hc1
  refine W.skip ?_
  refine hK1 _ ?_
  clear hK1 K1
  refine W.seqk fun K2 hK2=>?_
  refine rK [1,12] ?_
  refine it (fun hc2=>?_) (fun hc2=>?_)
  ·
   try simp at hc2
   replace F:=F.add hc2
   refine rK [2] ?_
   refine W.ret ?_
   refine tr ?_
   clear hK2 K2
   refine er false [] [] ?_
   exact ⟨congrArg I (sea6 hc2).symm,rfl⟩
  ·
   try simp at hc2
   replace F:=F.add hc2
   refine W.skip ?_
   refine hK2 _ ?_
   clear hK2 K2
   refine W.seqk fun K3 hK3=>?_
   refine rK [1,19] ?_
   refine it (fun hc3=>?_) (fun hc3=>?_)
   ·
    try simp at hc3
    replace F:=F.add hc3
    refine rK [2] ?_
    refine W.ret ?_
    refine tr ?_
    clear hK3 K3
    refine er false [] [] ?_
    exact ⟨congrArg I (sea2 hc1 (by omega) (by omega)).symm,rfl⟩
   ·
    try simp at hc3
    replace F:=F.add hc3
    refine W.skip ?_
    refine hK3 _ ?_
    clear hK3 K3
    refine W.seqk fun K4 hK4=>?_
    by_cases hd:inB s.days 0 10=true
    ·
     replace F:=F.add hd
     by_cases hm2:inB s.most 0 4=true
     ·
      replace F:=F.add hm2
      refine W.seqR ?_
      refine oN 2 ?_
      refine oC [] ?_
      refine ct (within_ok s.days 0 10) ?_
      refine oN 2 ?_
      refine gT ?_
      refine gT ?_
      refine gC [] ?_
      refine ct (within_ok s.most 0 4) ?_
      refine gT ?_
      refine oN 1 ?_
      refine oK [1,29] ?_
      refine cF ?_
      refine W.skip ?_
      refine hK4 _ ?_
      clear hK4 K4
      refine W.seqk fun K5 hK5=>?_
      refine rK [1,3] ?_
      refine W.block ?_
      refine lpa (α:=Nat) [1] [33,42] [] (fun i=>[(3,I i)]) (fun i=>[]) (fun i=>i≤s.lef.length∧(s.lef.take i).any (fun n=>!inB n (-1) 10)=false) (fun i=>s.lef.length-i) 0 v0 ?_
      ·
       intro i hI0
       simp only [List.cons_append,List.nil_append]
       try dsimp only at hI0
       obtain ⟨hi,ka⟩:=hI0
       replace F:=F.add hi
       refine W.seqk fun K6 hK6=>?_
       refine rK [1,3,34] ?_
       refine it (fun hc5=>?_) (fun hc5=>?_)
       ·
        try simp at hc5
        replace F:=F.add hc5
        refine W.skip ?_
        refine hK6 _ ?_
        clear hK6 K6
        refine W.seqk fun K7 hK7=>?_
        refine W.block ?_
        have hil:i<s.lef.length:=by omega
        replace F:=F.add hil
        by_cases hx:inB s.lef[i] (-1) 10=true
        ·
         replace F:=F.add hx
         refine W.seqR ?_
         refine oN 5 ?_
         refine oC [] ?_
         refine ct (within_ok s.lef[i] (-1) 10) ?_
         refine oN 1 ?_
         refine oK [1,3,43] ?_
         refine cF ?_
         refine W.skip ?_
         refine hK7 _ ?_
         clear hK7 K7
         refine rEw ?_
         refine ⟨i+1,lf0, ?_,v0⟩
         ·
          exact ⟨by omega,any_step hil ka hx⟩
        ·
         replace F:=F.add hx
         refine W.seqR ?_
         refine oN 5 ?_
         refine oC [] ?_
         refine ct (within_ok s.lef[i] (-1) 10) ?_
         refine oN 1 ?_
         refine oK [1,3,43] ?_
         refine cT ?_
         refine rK [2] ?_
         refine W.ret ?_
         refine br (tr (tr (br (tr ?_))))
         clear hK7 K7 hK5 K5
         refine er false [] [] ?_
         exact ⟨congrArg I (sea1 hc1 (by omega) (by omega) (.inr (.inr (.inl (any_hit hil hx))))).symm,rfl⟩
       ·
        try simp at hc5
        replace F:=F.add hc5
        refine W.exit ?_
        refine hK5 _ ?_
        clear hK6 K6 hK5 K5
        refine W.seqk fun K8 hK8=>?_
        refine rK [1,4] ?_
        refine W.block ?_
        refine lpa (α:=Nat) [1] [47,56] [] (fun j=>[(4,I j)]) (fun j=>[]) (fun j=>j≤s.eve.length∧(s.eve.take j).any (fun n=>!inB n 0 10)=false) (fun j=>s.eve.length-j) 0 v0 ?_
        ·
         intro j hI1
         simp only [List.cons_append,List.nil_append]
         try dsimp only at hI1
         obtain ⟨hj,kb⟩:=hI1
         replace F:=F.add hj
         refine W.seqk fun K9 hK9=>?_
         refine rK [1,4,48] ?_
         refine it (fun hc8=>?_) (fun hc8=>?_)
         ·
          try simp at hc8
          replace F:=F.add hc8
          refine W.skip ?_
          refine hK9 _ ?_
          clear hK9 K9
          refine W.seqk fun K10 hK10=>?_
          refine W.block ?_
          have hjl:j<s.eve.length:=by omega
          replace F:=F.add hjl
          by_cases hy:inB s.eve[j] 0 10=true
          ·
           replace F:=F.add hy
           refine W.seqR ?_
           refine oN 5 ?_
           refine oC [] ?_
           refine ct (within_ok s.eve[j] 0 10) ?_
           refine oN 1 ?_
           refine oK [1,4,57] ?_
           refine cF ?_
           refine W.skip ?_
           refine hK10 _ ?_
           clear hK10 K10
           refine rEw ?_
           refine ⟨j+1,lf0, ?_,v0⟩
           ·
            exact ⟨by omega,any_step hjl kb hy⟩
          ·
           replace F:=F.add hy
           refine W.seqR ?_
           refine oN 5 ?_
           refine oC [] ?_
           refine ct (within_ok s.eve[j] 0 10) ?_
           refine oN 1 ?_
           refine oK [1,4,57] ?_
           refine cT ?_
           refine rK [2] ?_
           refine W.ret ?_
           refine br (tr (tr (br (tr ?_))))
           clear hK10 K10 hK8 K8
           refine er false [] [] ?_
           exact ⟨congrArg I (sea1 hc1 (by omega) (by omega) (.inr (.inr (.inr (any_hit hjl hy))))).symm,rfl⟩
         ·
          try simp at hc8
          replace F:=F.add hc8
          refine W.exit ?_
          refine hK8 _ ?_
          clear hK9 K9 hK8 K8
          refine rK [2] ?_
          refine W.ret ?_
          refine er false [] [] ?_
          rw [List.take_of_length_le (by omega)] at ka kb
          exact ⟨congrArg I (sea0 hc1 (by omega) (by omega) hd hm2 ka kb).symm,rfl⟩
     ·
      replace F:=F.add hm2
      refine W.seqR ?_
      refine oN 2 ?_
      refine oC [] ?_
      refine ct (within_ok s.days 0 10) ?_
      refine oN 2 ?_
      refine gT ?_
      refine gT ?_
      refine gC [] ?_
      refine ct (within_ok s.most 0 4) ?_
      refine gT ?_
      refine oN 1 ?_
      refine oK [1,29] ?_
      refine cT ?_
      refine rK [2] ?_
      refine W.ret ?_
      refine tr ?_
      clear hK4 K4
      refine er false [] [] ?_
      exact ⟨congrArg I (sea1 hc1 (by omega) (by omega) (.inr (.inl (by simpa using hm2)))).symm,rfl⟩
    ·
     replace F:=F.add hd
     refine W.seqR ?_
     refine oN 2 ?_
     refine oC [] ?_
     refine ct (within_ok s.days 0 10) ?_
     refine oN 2 ?_
     refine gF ?_
     refine gF ?_
     refine gF ?_
     refine gF ?_
     refine oN 1 ?_
     refine oK [1,29] ?_
     refine cT ?_
     refine rK [2] ?_
     refine W.ret ?_
     refine tr ?_
     clear hK4 K4
     refine er false [] [] ?_
     exact ⟨congrArg I (sea1 hc1 (by omega) (by omega) (.inl (by simpa using hd))).symm,rfl⟩
theorem laterB_drop {a b:List Tst}{i:Nat}(h1:i<a.length) (h2:i<b.length):laterB (a.drop i) (b.drop i)=if a[i]=b[i] then laterB (a.drop (i+1)) (b.drop (i+1)) else (decide (b[i].day<a[i].day)||(decide (a[i].day=b[i].day)&&decide (b[i].sc<a[i].sc))):=by
  rw [List.drop_eq_getElem_cons h1,List.drop_eq_getElem_cons h2,laterB]
theorem laterB_end {a b:List Tst}{i:Nat}(h1:a.length≤i):laterB (a.drop i) (b.drop i)=false:=by
  rw [List.drop_of_length_le h1]
  cases b.drop i<;>rfl
set_option maxHeartbeats 40000000 in
theorem rLater_ok (a b:List Tst) (hab:a.length=b.length):ACalls Try.prog 133 [tstV a,tstV b] [] (fun r o=>r=B (laterB a b)∧o=[]):=by
 refine ACalls.len (l:=a.map T2) (by simp) ⟨_,Try.func133,by kernel_rfl,by kernel_rfl⟩ fun hl=>?_
 simp [maxLen_val] at hl
 refine ACalls.len (l:=b.map T2) (by simp) ⟨_,Try.func133,by kernel_rfl,by kernel_rfl⟩ fun hl2=>?_
 simp [maxLen_val] at hl2
 have F:=Fx.nil
 refine ent Try.func133 Try.ntmps133 Try.results133 ?_
 refine rK [0,1] ?_
 refine W.seqk fun K1 hK1=>?_
 refine rK [0,1,5] ?_
 refine W.block ?_
 refine lpa (α:=Nat) [0,1] [8] [] (fun i=>[(5,I i)]) (fun i=>[]) (fun i=>i≤a.length∧laterB a b=laterB (a.drop i) (b.drop i)) (fun i=>a.length-i) 0 v0 ?_
 ·
  intro i hI0
  simp only [List.cons_append,List.nil_append]
  try dsimp only at hI0
  obtain ⟨hi,kl⟩:=hI0
  replace F:=F.add hi
  refine W.seqk fun K2 hK2=>?_
  refine rK [0,1,5,9] ?_
  refine it (fun hc1=>?_) (fun hc1=>?_)
  ·
   try simp at hc1
   replace F:=F.add hc1
   refine W.skip ?_
   refine hK2 _ ?_
   clear hK2 K2
   refine W.seqk fun K3 hK3=>?_
   refine W.block ?_
   have hia:i<a.length:=by omega
   have hib:i<b.length:=by omega
   have qdr:=laterB_drop hia hib
   obtain ⟨x1,x2,qx⟩:∃x1 x2,a[i]=⟨x1,x2⟩:=⟨a[i].day,a[i].sc,rfl⟩
   obtain ⟨y1,y2,qy⟩:∃y1 y2,b[i]=⟨y1,y2⟩:=⟨b[i].day,b[i].sc,rfl⟩
   have hax:=qx
   have hby:=qy
   rw [qx,qy] at qdr
   replace F:=F.add hia |>.add hib |>.add hax |>.add hby
   by_cases hlt:x1<y1
   ·
    replace F:=F.add hlt
    have hbe1:(x1==y1)=false:=by simp;omega
    have hn1:¬y1<x1:=by omega
    have hn2:x1≤y1:=by omega
    have hn3:¬x1=y1:=by omega
    rw [if_neg (fun h=>hn3 (Tst.mk.inj h).1)] at qdr
    replace F:=F.add hbe1 |>.add hn1 |>.add hn2 |>.add hn3
    refine wD 8 [] [[],[],[1,0],[0,1,2],[],[],[5,4],[4,5,6],[6,5,4,7,2,1,0,3]] ?_
    refine dB [([13,16,17,18,19],[],[]),([12,16,17,18,19],[false],[]),([16,17,18,19],[true,true],[]),([16,17,18,19],[true,true,true],[]),([12,13,14,15,17],[false,false,false,false],[]),([12,13,14,15,16],[false,false,false,false,false],[]),([12,13,14,15],[false,false,false,false,true,true],[]),([12,13,14,15],[false,false,false,false,true,true,true],[])] 0 8 ?_
    refine dD ?_
    refine oN 1 ?_
    refine oK [0,1,5,20] ?_
    refine cT ?_
    refine wD 34 [] [[],[],[1,0],[0,1,2],[2,1,0,3],[],[],[6,5],[5,6,7],[7,6,5,8],[8,5,6,7,9,3,0,1,2,4],[4,2,1,0,3,9,7,6,5,8,10],[10,8,5,6,7,9,3,0,1,2,4,11],[10,8,5,6,7,9,3,0,1,2,4,11],[13,11,4,2,1,0,3,9,7,6,5,8,10,12],[12,10,8,5,6,7,9,3,0,1,2,4,11,13,14],[14,13,11,4,2,1,0,3,9,7,6,5,8,10,12,15],[10,8,5,6,7,9,3,0,1,2,4,11],[10,8,5,6,7,9,3,0,1,2,4,11],[18,11,4,2,1,0,3,9,7,6,5,8,10,17],[17,10,8,5,6,7,9,3,0,1,2,4,11,18,19],[19,18,11,4,2,1,0,3,9,7,6,5,8,10,17,20],[20,17,18,19,21,15,12,10,8,5,6,7,9,3,0,1,2,4,11,13,14,16],[16,14,13,11,4,2,1,0,3,9,7,6,5,8,10,12,15,21,19,18,17,20,22],[22,20,17,18,19,21,15,12,10,8,5,6,7,9,3,0,1,2,4,11,13,14,16,23],[22,20,17,18,19,21,15,12,10,8,5,6,7,9,3,0,1,2,4,11,13,14,16,23],[25,23,16,14,13,11,4,2,1,0,3,9,7,6,5,8,10,12,15,21,19,18,17,20,22,24],[24,22,20,17,18,19,21,15,12,10,8,5,6,7,9,3,0,1,2,4,11,13,14,16,23,25,26],[26,25,23,16,14,13,11,4,2,1,0,3,9,7,6,5,8,10,12,15,21,19,18,17,20,22,24,27],[22,20,17,18,19,21,15,12,10,8,5,6,7,9,3,0,1,2,4,11,13,14,16,23],[22,20,17,18,19,21,15,12,10,8,5,6,7,9,3,0,1,2,4,11,13,14,16,23],[30,23,16,14,13,11,4,2,1,0,3,9,7,6,5,8,10,12,15,21,19,18,17,20,22,29],[29,22,20,17,18,19,21,15,12,10,8,5,6,7,9,3,0,1,2,4,11,13,14,16,23,30,31],[31,30,23,16,14,13,11,4,2,1,0,3,9,7,6,5,8,10,12,15,21,19,18,17,20,22,29,32],[32,29,30,31,33,27,24,22,20,17,18,19,21,15,12,10,8,5,6,7,9,3,0,1,2,4,11,13,14,16,23,25,26,28],[28,26,25,24,27,33,31,30,29,32,34,22,20,17,18,19,21,15,12,10,8,5,6,7,9,3,0,1,2,4,11,13,14,16,23],[23,16,14,13,12,15,21,19,18,17,20,22,34,32,29,30,31,33,27,24,25,26,28,35,10,8,5,6,7,9,3,0,1,2,4,11],[11,4,2,1,0,3,9,7,6,5,8,10,35,28,26,25,24,27,33,31,30,29,32,34,22,20,17,18,19,21,15,12,13,14,16,23,36]] ?_
    refine dB [([22,26,27,28,29,30],[],[]),([21,26,27,28,29,30],[false],[]),([26,27,28,29,30],[true,true],[]),([26,27,28,29,30],[true,true,true],[]),([26,27,28,29,30],[true,true,true,true],[]),([21,22,23,24,25,27],[false,false,false,false,false],[]),([21,22,23,24,25,26],[false,false,false,false,false,false],[]),([21,22,23,24,25],[false,false,false,false,false,true,true],[]),([21,22,23,24,25],[false,false,false,false,false,true,true,true],[]),([21,22,23,24,25],[false,false,false,false,false,true,true,true,true],[]),([],[true,true,true,true,true,true,true,true,true,true],[]),([],[true,true,true,true,true,true,true,true,true,true,true],[])] 22 12 ?_
    refine dT [34,38,39,40,41,42] [true,true,true,true,true,true,true,true,true,true,true,true] [] ?_
    refine dT [33,38,39,40,41,42] [true,true,true,true,true,true,true,true,true,true,true,true,false] [] ?_
    refine dT [38,39,40,41,42] [true,true,true,true,true,true,true,true,true,true,true,true,true,true] [] ?_
    refine dT [38,39,40,41,42] [true,true,true,true,true,true,true,true,true,true,true,true,true,true,true] [] ?_
    refine dT [38,39,40,41,42] [true,true,true,true,true,true,true,true,true,true,true,true,true,true,true,true] [] ?_
    refine dT [33,34,35,36,37,39] [true,true,true,true,true,true,true,true,true,true,true,true,false,false,false,false,false] [] ?_
    refine dT [33,34,35,36,37,38] [true,true,true,true,true,true,true,true,true,true,true,true,false,false,false,false,false,false] [] ?_
    refine dT [33,34,35,36,37] [true,true,true,true,true,true,true,true,true,true,true,true,false,false,false,false,false,true,true] [] ?_
    refine dT [33,34,35,36,37] [true,true,true,true,true,true,true,true,true,true,true,true,false,false,false,false,false,true,true,true] [] ?_
    refine dT [33,34,35,36,37] [true,true,true,true,true,true,true,true,true,true,true,true,false,false,false,false,false,true,true,true,true] [] ?_
    refine dT [] [true,true,true,true,true,true,true,true,true,true,true,true,true,true,true,true,true,true,true,true,true,true] [] ?_
    refine dT [] [true,true,true,true,true,true,true,true,true,true,true,true,true,true,true,true,true,true,true,true,true,true,true] [] ?_
    refine dF [some 45,some 46,some 47,some 48,some 49,some 50,some 51,some 52,some 53,some 54] 23 44 true 0 ?_
    refine dD ?_
    refine gF ?_
    refine gT ?_
    refine oN 2 ?_
    refine oK [4] ?_
    refine W.ret ?_
    refine br (tr (tr (br (tr ?_))))
    clear hK3 K3 hK1 K1
    refine er false [] [] ?_
    (refine ⟨congrArg B (kl.trans (qdr.trans ?_)).symm,rfl⟩;simp [hn1,hn3];done)
   ·
    replace F:=F.add hlt
    by_cases hgt:y1<x1
    ·
     replace F:=F.add hgt
     have hbe1:(x1==y1)=false:=by simp;omega
     have hn3:¬x1=y1:=by omega
     rw [if_neg (fun h=>hn3 (Tst.mk.inj h).1)] at qdr
     replace F:=F.add hbe1 |>.add hn3
     refine wD 8 [] [[],[],[1,0],[0,1,2],[],[],[5,4],[4,5,6],[6,5,4,7,2,1,0,3]] ?_
     refine dB [([13,16,17,18,19],[],[]),([12,16,17,18,19],[false],[]),([16,17,18,19],[true,true],[]),([16,17,18,19],[true,true,true],[]),([12,13,14,15,17],[false,false,false,false],[]),([12,13,14,15,16],[false,false,false,false,false],[]),([12,13,14,15],[false,false,false,false,true,true],[]),([12,13,14,15],[false,false,false,false,true,true,true],[])] 0 8 ?_
     refine dD ?_
     refine oN 1 ?_
     refine oK [0,1,5,20] ?_
     refine cT ?_
     refine wD 34 [] [[],[],[1,0],[0,1,2],[2,1,0,3],[],[],[6,5],[5,6,7],[7,6,5,8],[8,5,6,7,9,3,0,1,2,4],[4,2,1,0,3,9,7,6,5,8,10],[10,8,5,6,7,9,3,0,1,2,4,11],[10,8,5,6,7,9,3,0,1,2,4,11],[13,11,4,2,1,0,3,9,7,6,5,8,10,12],[12,10,8,5,6,7,9,3,0,1,2,4,11,13,14],[14,13,11,4,2,1,0,3,9,7,6,5,8,10,12,15],[10,8,5,6,7,9,3,0,1,2,4,11],[10,8,5,6,7,9,3,0,1,2,4,11],[18,11,4,2,1,0,3,9,7,6,5,8,10,17],[17,10,8,5,6,7,9,3,0,1,2,4,11,18,19],[19,18,11,4,2,1,0,3,9,7,6,5,8,10,17,20],[20,17,18,19,21,15,12,10,8,5,6,7,9,3,0,1,2,4,11,13,14,16],[16,14,13,11,4,2,1,0,3,9,7,6,5,8,10,12,15,21,19,18,17,20,22],[22,20,17,18,19,21,15,12,10,8,5,6,7,9,3,0,1,2,4,11,13,14,16,23],[22,20,17,18,19,21,15,12,10,8,5,6,7,9,3,0,1,2,4,11,13,14,16,23],[25,23,16,14,13,11,4,2,1,0,3,9,7,6,5,8,10,12,15,21,19,18,17,20,22,24],[24,22,20,17,18,19,21,15,12,10,8,5,6,7,9,3,0,1,2,4,11,13,14,16,23,25,26],[26,25,23,16,14,13,11,4,2,1,0,3,9,7,6,5,8,10,12,15,21,19,18,17,20,22,24,27],[22,20,17,18,19,21,15,12,10,8,5,6,7,9,3,0,1,2,4,11,13,14,16,23],[22,20,17,18,19,21,15,12,10,8,5,6,7,9,3,0,1,2,4,11,13,14,16,23],[30,23,16,14,13,11,4,2,1,0,3,9,7,6,5,8,10,12,15,21,19,18,17,20,22,29],[29,22,20,17,18,19,21,15,12,10,8,5,6,7,9,3,0,1,2,4,11,13,14,16,23,30,31],[31,30,23,16,14,13,11,4,2,1,0,3,9,7,6,5,8,10,12,15,21,19,18,17,20,22,29,32],[32,29,30,31,33,27,24,22,20,17,18,19,21,15,12,10,8,5,6,7,9,3,0,1,2,4,11,13,14,16,23,25,26,28],[28,26,25,24,27,33,31,30,29,32,34,22,20,17,18,19,21,15,12,10,8,5,6,7,9,3,0,1,2,4,11,13,14,16,23],[23,16,14,13,12,15,21,19,18,17,20,22,34,32,29,30,31,33,27,24,25,26,28,35,10,8,5,6,7,9,3,0,1,2,4,11],[11,4,2,1,0,3,9,7,6,5,8,10,35,28,26,25,24,27,33,31,30,29,32,34,22,20,17,18,19,21,15,12,13,14,16,23,36]] ?_
     refine dB [([22,26,27,28,29,30],[],[]),([21,26,27,28,29,30],[false],[]),([26,27,28,29,30],[true,true],[]),([26,27,28,29,30],[true,true,true],[]),([26,27,28,29,30],[true,true,true,true],[]),([21,22,23,24,25,27],[false,false,false,false,false],[]),([21,22,23,24,25,26],[false,false,false,false,false,false],[]),([21,22,23,24,25],[false,false,false,false,false,true,true],[]),([21,22,23,24,25],[false,false,false,false,false,true,true,true],[]),([21,22,23,24,25],[false,false,false,false,false,true,true,true,true],[]),([],[true,true,true,true,true,true,true,true,true,true],[]),([],[true,true,true,true,true,true,true,true,true,true,true],[])] 22 12 ?_
     refine dF [some 33,some 34,some 35,some 36,some 37,some 38,some 39,some 40,some 41,some 42,some 43,some 44] 11 32 false 10 ?_
     refine dF [some 45,some 46,some 47,some 48,some 49,some 50,some 51,some 52,some 53,some 54] 23 44 true 0 ?_
     refine dD ?_
     refine gF ?_
     refine gF ?_
     refine oN 2 ?_
     refine oK [4] ?_
     refine W.ret ?_
     refine br (tr (tr (br (tr ?_))))
     clear hK3 K3 hK1 K1
     refine er false [] [] ?_
     (refine ⟨congrArg B (kl.trans (qdr.trans ?_)).symm,rfl⟩;simp [hgt];done)
    ·
     replace F:=F.add hgt
     have hx1:x1=y1:=by omega
     have hbe1:(x1==y1)=true:=by simp [hx1]
     replace F:=F.add hx1 |>.add hbe1
     by_cases hx2:x2=y2
     ·
      replace F:=F.add hx2
      have hbe2:(x2==y2)=true:=by simp [hx2]
      rw [if_pos (by rw [hx1,hx2])] at qdr
      replace F:=F.add hbe2
      refine wD 8 [] [[],[],[1,0],[0,1,2],[],[],[5,4],[4,5,6],[6,5,4,7,2,1,0,3]] ?_
      refine dB [([13,16,17,18,19],[],[]),([12,16,17,18,19],[false],[]),([16,17,18,19],[true,true],[]),([16,17,18,19],[true,true,true],[]),([12,13,14,15,17],[false,false,false,false],[]),([12,13,14,15,16],[false,false,false,false,false],[]),([12,13,14,15],[false,false,false,false,true,true],[]),([12,13,14,15],[false,false,false,false,true,true,true],[])] 0 8 ?_
      refine dD ?_
      refine oN 1 ?_
      refine oK [0,1,5,20] ?_
      refine cF ?_
      refine W.skip ?_
      refine hK3 _ ?_
      clear hK3 K3
      refine rEw ?_
      refine ⟨i+1,lf0,v0,v0⟩
     ·
      replace F:=F.add hx2
      have hbe2:(x2==y2)=false:=by simp [hx2]
      rw [if_neg (fun h=>hx2 (Tst.mk.inj h).2)] at qdr
      replace F:=F.add hbe2
      refine wD 8 [] [[],[],[1,0],[0,1,2],[],[],[5,4],[4,5,6],[6,5,4,7,2,1,0,3]] ?_
      refine dB [([13,16,17,18,19],[],[]),([12,16,17,18,19],[false],[]),([16,17,18,19],[true,true],[]),([16,17,18,19],[true,true,true],[]),([12,13,14,15,17],[false,false,false,false],[]),([12,13,14,15,16],[false,false,false,false,false],[]),([12,13,14,15],[false,false,false,false,true,true],[]),([12,13,14,15],[false,false,false,false,true,true,true],[])] 0 8 ?_
      refine dD ?_
      refine oN 1 ?_
      refine oK [0,1,5,20] ?_
      refine cT ?_
      refine wD 34 [] [[],[],[1,0],[0,1,2],[2,1,0,3],[],[],[6,5],[5,6,7],[7,6,5,8],[8,5,6,7,9,3,0,1,2,4],[4,2,1,0,3,9,7,6,5,8,10],[10,8,5,6,7,9,3,0,1,2,4,11],[10,8,5,6,7,9,3,0,1,2,4,11],[13,11,4,2,1,0,3,9,7,6,5,8,10,12],[12,10,8,5,6,7,9,3,0,1,2,4,11,13,14],[14,13,11,4,2,1,0,3,9,7,6,5,8,10,12,15],[10,8,5,6,7,9,3,0,1,2,4,11],[10,8,5,6,7,9,3,0,1,2,4,11],[18,11,4,2,1,0,3,9,7,6,5,8,10,17],[17,10,8,5,6,7,9,3,0,1,2,4,11,18,19],[19,18,11,4,2,1,0,3,9,7,6,5,8,10,17,20],[20,17,18,19,21,15,12,10,8,5,6,7,9,3,0,1,2,4,11,13,14,16],[16,14,13,11,4,2,1,0,3,9,7,6,5,8,10,12,15,21,19,18,17,20,22],[22,20,17,18,19,21,15,12,10,8,5,6,7,9,3,0,1,2,4,11,13,14,16,23],[22,20,17,18,19,21,15,12,10,8,5,6,7,9,3,0,1,2,4,11,13,14,16,23],[25,23,16,14,13,11,4,2,1,0,3,9,7,6,5,8,10,12,15,21,19,18,17,20,22,24],[24,22,20,17,18,19,21,15,12,10,8,5,6,7,9,3,0,1,2,4,11,13,14,16,23,25,26],[26,25,23,16,14,13,11,4,2,1,0,3,9,7,6,5,8,10,12,15,21,19,18,17,20,22,24,27],[22,20,17,18,19,21,15,12,10,8,5,6,7,9,3,0,1,2,4,11,13,14,16,23],[22,20,17,18,19,21,15,12,10,8,5,6,7,9,3,0,1,2,4,11,13,14,16,23],[30,23,16,14,13,11,4,2,1,0,3,9,7,6,5,8,10,12,15,21,19,18,17,20,22,29],[29,22,20,17,18,19,21,15,12,10,8,5,6,7,9,3,0,1,2,4,11,13,14,16,23,30,31],[31,30,23,16,14,13,11,4,2,1,0,3,9,7,6,5,8,10,12,15,21,19,18,17,20,22,29,32],[32,29,30,31,33,27,24,22,20,17,18,19,21,15,12,10,8,5,6,7,9,3,0,1,2,4,11,13,14,16,23,25,26,28],[28,26,25,24,27,33,31,30,29,32,34,22,20,17,18,19,21,15,12,10,8,5,6,7,9,3,0,1,2,4,11,13,14,16,23],[23,16,14,13,12,15,21,19,18,17,20,22,34,32,29,30,31,33,27,24,25,26,28,35,10,8,5,6,7,9,3,0,1,2,4,11],[11,4,2,1,0,3,9,7,6,5,8,10,35,28,26,25,24,27,33,31,30,29,32,34,22,20,17,18,19,21,15,12,13,14,16,23,36]] ?_
      refine dB [([22,26,27,28,29,30],[],[]),([21,26,27,28,29,30],[false],[]),([26,27,28,29,30],[true,true],[]),([26,27,28,29,30],[true,true,true],[]),([26,27,28,29,30],[true,true,true,true],[]),([21,22,23,24,25,27],[false,false,false,false,false],[]),([21,22,23,24,25,26],[false,false,false,false,false,false],[]),([21,22,23,24,25],[false,false,false,false,false,true,true],[]),([21,22,23,24,25],[false,false,false,false,false,true,true,true],[]),([21,22,23,24,25],[false,false,false,false,false,true,true,true,true],[]),([],[true,true,true,true,true,true,true,true,true,true],[]),([],[true,true,true,true,true,true,true,true,true,true,true],[])] 22 12 ?_
      refine dT [34,38,39,40,41,42] [true,true,true,true,true,true,true,true,true,true,true,true] [] ?_
      refine dT [33,38,39,40,41,42] [true,true,true,true,true,true,true,true,true,true,true,true,false] [] ?_
      refine dT [38,39,40,41,42] [true,true,true,true,true,true,true,true,true,true,true,true,true,true] [] ?_
      refine dT [38,39,40,41,42] [true,true,true,true,true,true,true,true,true,true,true,true,true,true,true] [] ?_
      refine dT [38,39,40,41,42] [true,true,true,true,true,true,true,true,true,true,true,true,true,true,true,true] [] ?_
      refine dT [33,34,35,36,37,39] [true,true,true,true,true,true,true,true,true,true,true,true,false,false,false,false,false] [] ?_
      refine dT [33,34,35,36,37,38] [true,true,true,true,true,true,true,true,true,true,true,true,false,false,false,false,false,false] [] ?_
      refine dT [33,34,35,36,37] [true,true,true,true,true,true,true,true,true,true,true,true,false,false,false,false,false,true,true] [] ?_
      refine dT [33,34,35,36,37] [true,true,true,true,true,true,true,true,true,true,true,true,false,false,false,false,false,true,true,true] [] ?_
      refine dT [33,34,35,36,37] [true,true,true,true,true,true,true,true,true,true,true,true,false,false,false,false,false,true,true,true,true] [] ?_
      refine dT [] [true,true,true,true,true,true,true,true,true,true,true,true,true,true,true,true,true,true,true,true,true,true] [] ?_
      refine dT [] [true,true,true,true,true,true,true,true,true,true,true,true,true,true,true,true,true,true,true,true,true,true,true] [] ?_
      refine dT [46,50,51,52,53,54] [true,true,true,true,true,true,true,true,true,true,true,true,true,true,true,true,true,true,true,true,true,true,true,true] [] ?_
      refine dT [45,50,51,52,53,54] [true,true,true,true,true,true,true,true,true,true,true,true,true,true,true,true,true,true,true,true,true,true,true,true,false] [] ?_
      refine dT [50,51,52,53,54] [true,true,true,true,true,true,true,true,true,true,true,true,true,true,true,true,true,true,true,true,true,true,true,true,true,true] [] ?_
      refine dT [50,51,52,53,54] [true,true,true,true,true,true,true,true,true,true,true,true,true,true,true,true,true,true,true,true,true,true,true,true,true,true,true] [] ?_
      refine dT [50,51,52,53,54] [true,true,true,true,true,true,true,true,true,true,true,true,true,true,true,true,true,true,true,true,true,true,true,true,true,true,true,true] [] ?_
      refine dT [45,46,47,48,49,51] [true,true,true,true,true,true,true,true,true,true,true,true,true,true,true,true,true,true,true,true,true,true,true,true,false,false,false,false,false] [] ?_
      refine dT [45,46,47,48,49,50] [true,true,true,true,true,true,true,true,true,true,true,true,true,true,true,true,true,true,true,true,true,true,true,true,false,false,false,false,false,false] [] ?_
      refine dT [45,46,47,48,49] [true,true,true,true,true,true,true,true,true,true,true,true,true,true,true,true,true,true,true,true,true,true,true,true,false,false,false,false,false,true,true] [] ?_
      refine dT [45,46,47,48,49] [true,true,true,true,true,true,true,true,true,true,true,true,true,true,true,true,true,true,true,true,true,true,true,true,false,false,false,false,false,true,true,true] [] ?_
      refine dT [45,46,47,48,49] [true,true,true,true,true,true,true,true,true,true,true,true,true,true,true,true,true,true,true,true,true,true,true,true,false,false,false,false,false,true,true,true,true] [] ?_
      refine dD ?_
      refine gT ?_
      refine gT ?_
      refine oN 2 ?_
      refine oK [4] ?_
      refine W.ret ?_
      refine br (tr (tr (br (tr ?_))))
      clear hK3 K3 hK1 K1
      refine er false [] [] ?_
      (refine ⟨congrArg B (kl.trans (qdr.trans ?_)).symm,rfl⟩;simp [hx1,hx2];done)
  ·
   try simp at hc1
   replace F:=F.add hc1
   refine W.exit ?_
   refine hK1 _ ?_
   clear hK2 K2 hK1 K1
   refine rK [4] ?_
   refine W.ret ?_
   refine er false [] [] ?_
   exact ⟨congrArg B (kl.trans (laterB_end hc1)).symm,rfl⟩
end Go.Sim
