/- Benches: what the reference's Check says. -/
import Derived.Test.YtojjfnhjmfokhaaGreatQa
namespace Go.Sim
set_option maxHeartbeats 4000000
open Go.Proofs
set_option maxRecDepth 100000
set_option linter.unusedSimpArgs false
set_option linter.unusedVariables false
attribute [-simp] List.map_set List.map_take List.map_drop
attribute [simp] spn_eta
def checkM (b:Ben):Int:=firstNZ (fun x:Int=>x) [manyC b.mas.length 5,firstNZ masC b.mas,manyC (1+b.wei.length) 7,firstNZ (weiC b.mas.length) b.wei]
def checkR (b:Ben):Int:=firstNZ (fun x:Int=>x) [manyC b.scl.length 3,firstNZ sclC b.scl,daysC b,firstNZ (triC b.scl.length b.mas.length b.days) b.tri]
theorem checkB_MR (b:Ben):checkB b=if checkM b≠0 then checkM b else checkR b:=by
  unfold checkB checkM checkR checksB
  simp only [firstNZ]
  by_cases h1:manyC b.mas.length 5=0<;>by_cases h2:firstNZ masC b.mas=0<;>by_cases h3:manyC (1+b.wei.length) 7=0<;>by_cases h4:firstNZ (weiC b.mas.length) b.wei=0<;>simp [h1,h2,h3,h4]
theorem many0 {n:Nat}{m:Int}(h1:1≤n) (h2:(n:Int)≤m):manyC n m=0:=(manyC_zero (by omega)).2 ⟨by omega,h2⟩
theorem many01 {n:Nat}(h2:n≤6):manyC (1+n) 7=0:=(manyC_zero (by omega)).2 ⟨by omega,by omega⟩
theorem many7 {n:Nat}{m:Int}(h1:n=0):manyC n m=7:=by rw [manyC,if_pos (by omega)]
theorem many6 {n:Nat}{m:Int}(hm:0≤m) (h1:m<n):manyC n m=6:=by rw [manyC,if_neg (by omega),if_pos h1]
theorem many61 {n:Nat}(h1:6<n):manyC (1+n) 7=6:=by rw [manyC,if_neg (by omega),if_pos (by omega)]
theorem four1 {a b c d:Int}(h:a≠0):firstNZ (fun x:Int=>x) [a,b,c,d]=a:=by rw [firstNZ,if_neg h]
theorem four2 {a b c d:Int}(h1:a=0) (h:b≠0):firstNZ (fun x:Int=>x) [a,b,c,d]=b:=by rw [firstNZ,if_pos h1,firstNZ,if_neg h]
theorem four3 {a b c d:Int}(h1:a=0) (h2:b=0) (h:c≠0):firstNZ (fun x:Int=>x) [a,b,c,d]=c:=by rw [firstNZ,if_pos h1,firstNZ,if_pos h2,firstNZ,if_neg h]
theorem four4 {a b c d:Int}(h1:a=0) (h2:b=0) (h3:c=0):firstNZ (fun x:Int=>x) [a,b,c,d]=d:=by
  rw [firstNZ,if_pos h1,firstNZ,if_pos h2,firstNZ,if_pos h3,firstNZ]
  by_cases h:d=0<;>simp [h,firstNZ]
theorem hit_of {α:Type}{f:α→Int}{l:List α}{i:Nat}(hm:firstNZ f l=firstNZ f (l.drop i)) (hi:i<l.length){e:Int}(he:f l[i]=e) (h0:e≠0):firstNZ f l=e:=by
  rw [hm,firstNZ_hit hi (by rw [he];exact h0),he]
theorem done_of {α:Type}{f:α→Int}{l:List α}{i:Nat}(hm:firstNZ f l=firstNZ f (l.drop i)) (hi:l.length≤i):firstNZ f l=0:=by rw [hm,firstNZ_done hi]
theorem skip_of {α:Type}{f:α→Int}{l:List α}{i:Nat}(hm:firstNZ f l=firstNZ f (l.drop i)) (hi:i<l.length) (he:f l[i]=0):firstNZ f l=firstNZ f (l.drop (i+1)):=by rw [hm,firstNZ_skip hi he]
theorem within_ok (n a b:Int):ACalls Tryz.prog 36 [I n,I a,I b] [] (fun r o=>r=B (inB n a b)∧o=[]):=by
 have F:=Fx.nil
 refine ent Tryz.func36 Tryz.ntmps36 Tryz.results36 ?_
 refine rK [0,1,2] ?_
 refine W.seqR ?_
 refine oN 4 ?_
 refine gX ?_
 refine gX ?_
 refine gX ?_
 refine oN 2 ?_
 refine oK [6] ?_
 refine W.ret ?_
 refine er false [] [] ?_
 refine ⟨?_,rfl⟩
 unfold inB
 by_cases h1:a≤n<;>by_cases h2:n≤b<;>simp [h1,h2]
theorem rcheckSpan_ok (x:Spn) (m:Int) (hm1:0≤m) (hm2:m≤100000):ACalls Tryz.prog 100 [spnV x,I m] [] (fun r o=>r=I (spanC x (-m) m)∧o=[]):=by
 have F:=Fx.nil
 replace F:=F.add hm1 |>.add hm2
 refine ent Tryz.func100 Tryz.ntmps100 Tryz.results100 ?_
 refine rK [1,2] ?_
 refine W.seqk fun K1 hK1=>?_
 by_cases hs1:inB x.lo (-m) m=true
 ·
  replace F:=F.add hs1
  by_cases hs2:inB x.hi (-m) m=true
  ·
   replace F:=F.add hs2
   refine W.seqR ?_
   refine oNw 5 ?_
   refine oC [] ?_
   refine ct (within_ok _ _ _) ?_
   refine oN 2 ?_
   refine gT ?_
   refine gT ?_
   refine gT ?_
   refine gTw ?_
   refine gT ?_
   refine gC [] ?_
   refine ct (within_ok _ _ _) ?_
   refine gT ?_
   refine oN 1 ?_
   refine oK [2,20] ?_
   refine cF ?_
   refine W.skip ?_
   refine hK1 _ ?_
   clear hK1 K1
   refine W.seqk fun K2 hK2=>?_
   refine rK [25] ?_
   refine it (fun hc2=>?_) (fun hc2=>?_)
   ·
    try simp at hc2
    replace F:=F.add hc2
    refine rK [4] ?_
    refine W.ret ?_
    refine tr ?_
    clear hK2 K2
    refine er false [] [] ?_
    simp_all [spanC]
   ·
    try simp at hc2
    replace F:=F.add hc2
    refine W.skip ?_
    refine hK2 _ ?_
    clear hK2 K2
    refine rK [4] ?_
    refine W.ret ?_
    refine er false [] [] ?_
    simp_all [spanC]
  ·
   replace F:=F.add hs2
   refine W.seqR ?_
   refine oNw 5 ?_
   refine oC [] ?_
   refine ct (within_ok _ _ _) ?_
   refine oN 2 ?_
   refine gT ?_
   refine gT ?_
   refine gT ?_
   refine gTw ?_
   refine gT ?_
   refine gC [] ?_
   refine ct (within_ok _ _ _) ?_
   refine gT ?_
   refine oN 1 ?_
   refine oK [2,20] ?_
   refine cT ?_
   refine rK [4] ?_
   refine W.ret ?_
   refine tr ?_
   clear hK1 K1
   refine er false [] [] ?_
   simp_all [spanC]
 ·
  replace F:=F.add hs1
  refine W.seqR ?_
  refine oNw 5 ?_
  refine oC [] ?_
  refine ct (within_ok _ _ _) ?_
  refine oN 2 ?_
  refine gF ?_
  refine gF ?_
  refine gF ?_
  refine gF ?_
  refine gF ?_
  refine gF ?_
  refine gF ?_
  refine oN 1 ?_
  refine oK [2,20] ?_
  refine cT ?_
  refine rK [4] ?_
  refine W.ret ?_
  refine tr ?_
  clear hK1 K1
  refine er false [] [] ?_
  simp_all [spanC]
theorem checkMasses_ok (b:Ben) (hlm:b.mas.length≤1000) (hlw:b.wei.length≤1000):ACalls Tryz.prog 99 [benV b] [] (fun r o=>r=I (checkM b)∧o=[]):=by
 have F:=Fx.nil
 replace F:=F.add hlm |>.add hlw
 refine ent Tryz.func99 Tryz.ntmps99 Tryz.results99 ?_
 refine rK [1] ?_
 refine W.seqk fun K1 hK1=>?_
 refine rK [1,11] ?_
 refine it (fun hc1=>?_) (fun hc1=>?_)
 ·
  try simp at hc1
  replace F:=F.add hc1
  refine rK [2] ?_
  refine W.ret ?_
  refine tr ?_
  clear hK1 K1
  refine er false [] [] ?_
  exact ⟨congrArg I (by have e0:b.mas.length=0:=(by rw [hc1];rfl);rw [checkM,four1 (by rw [many7 e0];decide),many7 e0]),rfl⟩
 ·
  try simp at hc1
  replace F:=F.add hc1
  refine W.skip ?_
  refine hK1 _ ?_
  clear hK1 K1
  refine W.seqk fun K2 hK2=>?_
  refine rK [1,15] ?_
  refine it (fun hc2=>?_) (fun hc2=>?_)
  ·
   try simp at hc2
   replace F:=F.add hc2
   refine rK [2] ?_
   refine W.ret ?_
   refine tr ?_
   clear hK2 K2
   refine er false [] [] ?_
   exact ⟨congrArg I (by rw [checkM,four1 (by rw [many6 (by decide) (by omega)];decide),many6 (by decide) (by omega)]),rfl⟩
  ·
   try simp at hc2
   replace F:=F.add hc2
   refine W.skip ?_
   refine hK2 _ ?_
   clear hK2 K2
   refine W.seqk fun K3 hK3=>?_
   refine rK [1,3] ?_
   refine W.block ?_
   refine lpa (α:=Nat) [1] [19,29,37] [] (fun i=>[(3,I i)]) (fun i=>[]) (fun i=>i≤b.mas.length∧firstNZ masC b.mas=firstNZ masC (b.mas.drop i)) (fun i=>b.mas.length-i) 0 v0 ?_
   ·
    intro i hI0
    simp only [List.cons_append,List.nil_append]
    try dsimp only at hI0
    obtain ⟨hi,km1⟩:=hI0
    replace F:=F.add hi
    refine W.seqk fun K4 hK4=>?_
    refine rK [1,3,20] ?_
    refine it (fun hc3=>?_) (fun hc3=>?_)
    ·
     try simp at hc3
     replace F:=F.add hc3
     refine W.skip ?_
     refine hK4 _ ?_
     clear hK4 K4
     refine W.seqk fun K5 hK5=>?_
     refine W.block ?_
     refine W.seqk fun K6 hK6=>?_
     by_cases hs1:inB b.mas[i].nom 1 1000000=true
     ·
      replace F:=F.add hs1
      have him:i<b.mas.length:=by omega
      replace F:=F.add him
      refine W.seqR ?_
      refine oN 6 ?_
      refine oC [] ?_
      refine ct (within_ok _ _ _) ?_
      refine oN 1 ?_
      refine oK [1,3,30] ?_
      refine cF ?_
      refine W.skip ?_
      refine hK6 _ ?_
      clear hK6 K6
      refine W.seqR ?_
      refine oN 6 ?_
      refine oC [] ?_
      refine ct (rcheckSpan_ok ⟨_,_⟩ _ (by decide) (by decide)) ?_
      refine oN 1 ?_
      refine oK [1,3,4] ?_
      refine rK [1,3,4,39] ?_
      refine it (fun hc5=>?_) (fun hc5=>?_)
      ·
       try simp at hc5
       replace F:=F.add hc5
       refine rK [2] ?_
       refine W.ret ?_
       refine br (tr (tr (br (tr ?_))))
       clear hK5 K5 hK3 K3
       refine er false [] [] ?_
       have qe:=hit_of km1 him (e:=spanC b.mas[i].off (-10000) 10000) (by simp [masC,hs1]) hc5
       exact ⟨congrArg I (by rw [checkM,four2 (many0 (List.length_pos_iff.2 hc1) (by omega)) (by rw [qe];exact hc5),qe]),rfl⟩
      ·
       try simp at hc5
       replace F:=F.add hc5
       refine W.skip ?_
       refine hK5 _ ?_
       clear hK5 K5
       refine rEw ?_
       refine ⟨i+1,lf0, ?_,v0⟩
       ·
        first
        | exact ⟨by omega,skip_of km1 him (by simp_all [masC])⟩
        | exact ⟨by omega,skip_of km2 hjw (by simp_all [weiC])⟩
     ·
      replace F:=F.add hs1
      have him:i<b.mas.length:=by omega
      replace F:=F.add him
      refine W.seqR ?_
      refine oN 6 ?_
      refine oC [] ?_
      refine ct (within_ok _ _ _) ?_
      refine oN 1 ?_
      refine oK [1,3,30] ?_
      refine cT ?_
      refine rK [2] ?_
      refine W.ret ?_
      refine tr (br (tr (tr (br (tr ?_)))))
      clear hK6 K6 hK5 K5 hK3 K3
      refine er false [] [] ?_
      have qe:=hit_of (e:=1) km1 him (by simp [masC,hs1]) (by decide)
      exact ⟨congrArg I (by rw [checkM,four2 (many0 (List.length_pos_iff.2 hc1) (by omega)) (by rw [qe];decide),qe]),rfl⟩
    ·
     try simp at hc3
     replace F:=F.add hc3
     refine W.exit ?_
     refine hK3 _ ?_
     clear hK4 K4 hK3 K3
     refine W.seqk fun K7 hK7=>?_
     have qm0:firstNZ masC b.mas=0:=done_of km1 (by omega)
     have qn0:manyC b.mas.length 5=0:=many0 (List.length_pos_iff.2 hc1) (by omega)
     refine rK [1,44] ?_
     refine it (fun hc7=>?_) (fun hc7=>?_)
     ·
      try simp at hc7
      replace F:=F.add hc7
      refine rK [2] ?_
      refine W.ret ?_
      refine tr ?_
      clear hK7 K7
      refine er false [] [] ?_
      exact ⟨congrArg I (by rw [checkM,four3 qn0 qm0 (by rw [many61 (by omega)];decide),many61 (by omega)]),rfl⟩
     ·
      try simp at hc7
      replace F:=F.add hc7
      refine W.skip ?_
      refine hK7 _ ?_
      clear hK7 K7
      refine W.seqk fun K8 hK8=>?_
      have qw0:manyC (1+b.wei.length) 7=0:=many01 (by omega)
      refine rK [1,5] ?_
      refine W.block ?_
      refine lpa (α:=Nat) [1] [6,48,61,63,70,72,82] [] (fun j=>[(5,I j)]) (fun j=>[]) (fun j=>j≤b.wei.length∧firstNZ (weiC b.mas.length) b.wei=firstNZ (weiC b.mas.length) (b.wei.drop j)) (fun j=>b.wei.length-j) 0 v0 ?_
      ·
       intro j hI1
       simp only [List.cons_append,List.nil_append]
       try dsimp only at hI1
       obtain ⟨hj,km2⟩:=hI1
       replace F:=F.add hj
       refine W.seqk fun K9 hK9=>?_
       refine rK [1,5,49] ?_
       refine it (fun hc8=>?_) (fun hc8=>?_)
       ·
        try simp at hc8
        replace F:=F.add hc8
        refine W.skip ?_
        refine hK9 _ ?_
        clear hK9 K9
        refine W.seqk fun K10 hK10=>?_
        refine W.block ?_
        have hjw:j<b.wei.length:=by omega
        replace F:=F.add hjw
        refine rK [1,5,6] ?_
        refine W.seqk fun K11 hK11=>?_
        by_cases hs2:inB b.wei[j].a 0 ((b.mas.length:Int)-1)=true
        ·
         replace F:=F.add hs2
         by_cases hs3:inB b.wei[j].b 0 ((b.mas.length:Int)-1)=true
         ·
          replace F:=F.add hs3
          refine W.seqR ?_
          refine oNw 6 ?_
          refine oC [] ?_
          refine ct (within_ok _ _ _) ?_
          refine oN 2 ?_
          refine gT ?_
          refine gT ?_
          refine gT ?_
          refine gT ?_
          refine gT ?_
          refine gTw ?_
          refine gC [] ?_
          refine ct (within_ok _ _ _) ?_
          refine gT ?_
          refine oN 1 ?_
          refine oK [1,5,6,74] ?_
          refine cF ?_
          refine W.skip ?_
          refine hK11 _ ?_
          clear hK11 K11
          refine W.seqk fun K12 hK12=>?_
          refine rK [1,5,6,79] ?_
          refine it (fun hc10=>?_) (fun hc10=>?_)
          ·
           try simp at hc10
           replace F:=F.add hc10
           refine rK [2] ?_
           refine W.ret ?_
           refine tr (br (tr (tr (br (tr ?_)))))
           clear hK12 K12 hK10 K10 hK8 K8
           refine er false [] [] ?_
           have qe:=hit_of (e:=2) km2 hjw (by simp [weiC,hs2,hs3,hc10]) (by decide)
           exact ⟨congrArg I (by rw [checkM,four4 qn0 qm0 qw0,qe]),rfl⟩
          ·
           try simp at hc10
           replace F:=F.add hc10
           refine W.skip ?_
           refine hK12 _ ?_
           clear hK12 K12
           refine W.seqR ?_
           refine oN 2 ?_
           refine oC [] ?_
           refine ct (rcheckSpan_ok ⟨_,_⟩ _ (by decide) (by decide)) ?_
           refine oN 1 ?_
           refine oK [1,5,7] ?_
           refine rK [1,5,7,84] ?_
           refine it (fun hc11=>?_) (fun hc11=>?_)
           ·
            try simp at hc11
            replace F:=F.add hc11
            refine rK [2] ?_
            refine W.ret ?_
            refine br (tr (tr (br (tr ?_))))
            clear hK10 K10 hK8 K8
            refine er false [] [] ?_
            have qe:=hit_of km2 hjw (e:=spanC b.wei[j].dif (-20000) 20000) (by simp [weiC,hs2,hs3,hc10]) hc11
            exact ⟨congrArg I (by rw [checkM,four4 qn0 qm0 qw0,qe]),rfl⟩
           ·
            try simp at hc11
            replace F:=F.add hc11
            refine W.skip ?_
            refine hK10 _ ?_
            clear hK10 K10
            refine rEw ?_
            refine ⟨j+1,lf0, ?_,v0⟩
            ·
             first
             | exact ⟨by omega,skip_of km1 him (by simp_all [masC])⟩
             | exact ⟨by omega,skip_of km2 hjw (by simp_all [weiC])⟩
         ·
          replace F:=F.add hs3
          refine W.seqR ?_
          refine oNw 6 ?_
          refine oC [] ?_
          refine ct (within_ok _ _ _) ?_
          refine oN 2 ?_
          refine gT ?_
          refine gT ?_
          refine gT ?_
          refine gT ?_
          refine gT ?_
          refine gTw ?_
          refine gC [] ?_
          refine ct (within_ok _ _ _) ?_
          refine gT ?_
          refine oN 1 ?_
          refine oK [1,5,6,74] ?_
          refine cT ?_
          refine rK [2] ?_
          refine W.ret ?_
          refine tr (br (tr (tr (br (tr ?_)))))
          clear hK11 K11 hK10 K10 hK8 K8
          refine er false [] [] ?_
          have qe:=hit_of (e:=3) km2 hjw (by simp [weiC,hs2,hs3]) (by decide)
          exact ⟨congrArg I (by rw [checkM,four4 qn0 qm0 qw0,qe]),rfl⟩
        ·
         replace F:=F.add hs2
         refine W.seqR ?_
         refine oNw 6 ?_
         refine oC [] ?_
         refine ct (within_ok _ _ _) ?_
         refine oN 2 ?_
         refine gF ?_
         refine gF ?_
         refine gF ?_
         refine gF ?_
         refine gF ?_
         refine gF ?_
         refine gF ?_
         refine gF ?_
         refine oN 1 ?_
         refine oK [1,5,6,74] ?_
         refine cT ?_
         refine rK [2] ?_
         refine W.ret ?_
         refine tr (br (tr (tr (br (tr ?_)))))
         clear hK11 K11 hK10 K10 hK8 K8
         refine er false [] [] ?_
         have qe:=hit_of (e:=3) km2 hjw (by simp [weiC,hs2]) (by decide)
         exact ⟨congrArg I (by rw [checkM,four4 qn0 qm0 qw0,qe]),rfl⟩
       ·
        try simp at hc8
        replace F:=F.add hc8
        refine W.exit ?_
        refine hK8 _ ?_
        clear hK9 K9 hK8 K8
        refine rK [2] ?_
        refine W.ret ?_
        refine er false [] [] ?_
        exact ⟨congrArg I (by rw [checkM,four4 qn0 qm0 qw0,done_of km2 hc8]),rfl⟩
theorem rCheck_ok (b:Ben) (hLb:b.mas.length≤1000∧b.wei.length≤1000∧b.scl.length≤1000∧b.tri.length≤1000):ACalls Tryz.prog 58 [benV b] [] (fun r o=>r=I (checkB b)∧o=[]):=by
 have F:=Fx.nil
 refine ent Tryz.func58 Tryz.ntmps58 Tryz.results58 ?_
 obtain ⟨hlm,hlw,hls,hlt⟩:=hLb
 have hlm9:b.mas.length≤1000:=hlm
 have hlw9:b.wei.length≤1000:=hlw
 have hls9:b.scl.length≤1000:=hls
 have hlt9:b.tri.length≤1000:=hlt
 replace F:=F.add hlm9 |>.add hlw9 |>.add hls9 |>.add hlt9
 refine rK [1] ?_
 refine W.seqk fun K1 hK1=>?_
 refine W.seqR ?_
 refine oN 1 ?_
 refine oC [] ?_
 refine ct (checkMasses_ok b hlm hlw) ?_
 refine oN 1 ?_
 refine oK [1,3] ?_
 refine rK [1,3,12] ?_
 refine it (fun hc1=>?_) (fun hc1=>?_)
 ·
  try simp at hc1
  replace F:=F.add hc1
  refine rK [2] ?_
  refine W.ret ?_
  refine tr ?_
  clear hK1 K1
  refine er false [] [] ?_
  exact ⟨congrArg I (by rw [checkB_MR,if_pos hc1]),rfl⟩
 ·
  try simp at hc1
  replace F:=F.add hc1
  refine W.skip ?_
  refine hK1 _ ?_
  clear hK1 K1
  refine W.seqk fun K2 hK2=>?_
  refine rK [1,17] ?_
  refine it (fun hc2=>?_) (fun hc2=>?_)
  ·
   try simp at hc2
   replace F:=F.add hc2
   refine rK [2] ?_
   refine W.ret ?_
   refine tr ?_
   clear hK2 K2
   refine er false [] [] ?_
   exact ⟨congrArg I (by have e0:b.scl.length=0:=(by rw [hc2];rfl);rw [checkB_MR,if_neg (Classical.not_not.2 hc1),checkR,four1 (by rw [many7 e0];decide),many7 e0]),rfl⟩
  ·
   try simp at hc2
   replace F:=F.add hc2
   refine W.skip ?_
   refine hK2 _ ?_
   clear hK2 K2
   refine W.seqk fun K3 hK3=>?_
   refine rK [1,21] ?_
   refine it (fun hc3=>?_) (fun hc3=>?_)
   ·
    try simp at hc3
    replace F:=F.add hc3
    refine rK [2] ?_
    refine W.ret ?_
    refine tr ?_
    clear hK3 K3
    refine er false [] [] ?_
    exact ⟨congrArg I (by rw [checkB_MR,if_neg (Classical.not_not.2 hc1),checkR,four1 (by rw [many6 (by decide) (by omega)];decide),many6 (by decide) (by omega)]),rfl⟩
   ·
    try simp at hc3
    replace F:=F.add hc3
    refine W.skip ?_
    refine hK3 _ ?_
    clear hK3 K3
    refine W.seqk fun K4 hK4=>?_
    refine rK [1,4] ?_
    refine W.block ?_
    refine lpa (α:=Nat) [1] [25,35,45] [] (fun i=>[(4,I i)]) (fun i=>[]) (fun i=>i≤b.scl.length∧firstNZ sclC b.scl=firstNZ sclC (b.scl.drop i)) (fun i=>b.scl.length-i) 0 v0 ?_
    ·
     intro i hI0
     simp only [List.cons_append,List.nil_append]
     try dsimp only at hI0
     obtain ⟨hi,km1⟩:=hI0
     replace F:=F.add hi
     refine W.seqk fun K5 hK5=>?_
     refine rK [1,4,26] ?_
     refine it (fun hc4=>?_) (fun hc4=>?_)
     ·
      try simp at hc4
      replace F:=F.add hc4
      refine W.skip ?_
      refine hK5 _ ?_
      clear hK5 K5
      refine W.seqk fun K6 hK6=>?_
      refine W.block ?_
      refine W.seqk fun K7 hK7=>?_
      have him:i<b.scl.length:=by omega
      replace F:=F.add him
      refine W.seqR ?_
      refine oN 6 ?_
      refine oC [] ?_
      refine ct (rcheckSpan_ok ⟨_,_⟩ _ (by decide) (by decide)) ?_
      refine oN 1 ?_
      refine oK [1,4,5] ?_
      refine rK [1,4,5,37] ?_
      refine it (fun hc5=>?_) (fun hc5=>?_)
      ·
       try simp at hc5
       replace F:=F.add hc5
       refine rK [2] ?_
       refine W.ret ?_
       refine tr (br (tr (tr (br (tr ?_)))))
       clear hK7 K7 hK6 K6 hK4 K4
       refine er false [] [] ?_
       have qe:=hit_of km1 him (e:=spanC b.scl[i].fst (-10000) 10000) (by simp [sclC,hc5]) hc5
       exact ⟨congrArg I (by rw [checkB_MR,if_neg (Classical.not_not.2 hc1),checkR,four2 (many0 (List.length_pos_iff.2 hc2) (by omega)) (by rw [qe];exact hc5),qe]),rfl⟩
      ·
       try simp at hc5
       replace F:=F.add hc5
       refine W.skip ?_
       refine hK7 _ ?_
       clear hK7 K7
       refine W.seqR ?_
       refine oN 6 ?_
       refine oC [] ?_
       refine ct (rcheckSpan_ok ⟨_,_⟩ _ (by decide) (by decide)) ?_
       refine oN 1 ?_
       refine oK [1,4,6] ?_
       refine rK [1,4,6,47] ?_
       refine it (fun hc6=>?_) (fun hc6=>?_)
       ·
        try simp at hc6
        replace F:=F.add hc6
        refine rK [2] ?_
        refine W.ret ?_
        refine br (tr (tr (br (tr ?_))))
        clear hK6 K6 hK4 K4
        refine er false [] [] ?_
        have qe:=hit_of km1 him (e:=spanC b.scl[i].dri (-10000) 10000) (by simp [sclC,hc5]) hc6
        exact ⟨congrArg I (by rw [checkB_MR,if_neg (Classical.not_not.2 hc1),checkR,four2 (many0 (List.length_pos_iff.2 hc2) (by omega)) (by rw [qe];exact hc6),qe]),rfl⟩
       ·
        try simp at hc6
        replace F:=F.add hc6
        refine W.skip ?_
        refine hK6 _ ?_
        clear hK6 K6
        refine rEw ?_
        refine ⟨i+1,lf0, ?_,v0⟩
        ·
         first
         | exact ⟨by omega,skip_of km1 him (by simp_all [sclC])⟩
         | exact ⟨by omega,skip_of km2 hjw (by simp_all [triC])⟩
     ·
      try simp at hc4
      replace F:=F.add hc4
      refine W.exit ?_
      refine hK4 _ ?_
      clear hK5 K5 hK4 K4
      refine W.seqk fun K8 hK8=>?_
      by_cases hs1:inB b.days 0 8=true
      ·
       replace F:=F.add hs1
       have qm0:firstNZ sclC b.scl=0:=done_of km1 (by omega)
       have qn0:manyC b.scl.length 3=0:=many0 (List.length_pos_iff.2 hc2) (by omega)
       refine W.seqR ?_
       refine oN 2 ?_
       refine oC [] ?_
       refine ct (within_ok _ _ _) ?_
       refine oN 1 ?_
       refine oK [1,52] ?_
       refine cF ?_
       refine W.skip ?_
       refine hK8 _ ?_
       clear hK8 K8
       refine W.seqk fun K9 hK9=>?_
       refine rK [1,56] ?_
       refine it (fun hc8=>?_) (fun hc8=>?_)
       ·
        try simp at hc8
        replace F:=F.add hc8
        refine rK [2] ?_
        refine W.ret ?_
        refine tr ?_
        clear hK9 K9
        refine er false [] [] ?_
        have qe:daysC b=6:=by rw [daysC,if_neg (by simp [hs1])];exact many61 (by omega)
        exact ⟨congrArg I (by rw [checkB_MR,if_neg (Classical.not_not.2 hc1),checkR,four3 qn0 qm0 (by rw [qe];decide),qe]),rfl⟩
       ·
        try simp at hc8
        replace F:=F.add hc8
        refine W.skip ?_
        refine hK9 _ ?_
        clear hK9 K9
        refine W.seqk fun K10 hK10=>?_
        have qd0:daysC b=0:=by rw [daysC,if_neg (by simp_all)];exact many01 (by omega)
        refine rK [1,7] ?_
        refine W.block ?_
        refine lpa (α:=Nat) [1] [8,60,73,75,82,84,91,96] [] (fun j=>[(7,I j)]) (fun j=>[]) (fun j=>j≤b.tri.length∧firstNZ (triC b.scl.length b.mas.length b.days) b.tri=firstNZ (triC b.scl.length b.mas.length b.days) (b.tri.drop j)) (fun j=>b.tri.length-j) 0 v0 ?_
        ·
         intro j hI1
         simp only [List.cons_append,List.nil_append]
         try dsimp only at hI1
         obtain ⟨hj,km2⟩:=hI1
         replace F:=F.add hj
         refine W.seqk fun K11 hK11=>?_
         refine rK [1,7,61] ?_
         refine it (fun hc9=>?_) (fun hc9=>?_)
         ·
          try simp at hc9
          replace F:=F.add hc9
          refine W.skip ?_
          refine hK11 _ ?_
          clear hK11 K11
          refine W.seqk fun K12 hK12=>?_
          refine W.block ?_
          have hjw:j<b.tri.length:=by omega
          replace F:=F.add hjw
          refine rK [1,7,8] ?_
          refine W.seqk fun K13 hK13=>?_
          by_cases hs2:inB b.tri[j].sc 0 ((b.scl.length:Int)-1)=true
          ·
           replace F:=F.add hs2
           by_cases hs3:inB b.tri[j].ms 0 ((b.mas.length:Int)-1)=true
           ·
            replace F:=F.add hs3
            refine W.seqR ?_
            refine oNw 6 ?_
            refine oC [] ?_
            refine ct (within_ok _ _ _) ?_
            refine oN 2 ?_
            refine gT ?_
            refine gT ?_
            refine gT ?_
            refine gT ?_
            refine gT ?_
            refine gTw ?_
            refine gC [] ?_
            refine ct (within_ok _ _ _) ?_
            refine gT ?_
            refine oN 1 ?_
            refine oK [1,7,8,86] ?_
            refine cF ?_
            refine W.skip ?_
            refine hK13 _ ?_
            clear hK13 K13
            by_cases hs4:inB b.tri[j].day 0 b.days=true
            ·
             replace F:=F.add hs4
             by_cases hs5:inB b.tri[j].sh 0 2000000=true
             ·
              replace F:=F.add hs5
              refine W.seqR ?_
              refine oN 4 ?_
              refine oC [] ?_
              refine ct (within_ok _ _ _) ?_
              refine oN 2 ?_
              refine gT ?_
              refine gT ?_
              refine gC [] ?_
              refine ct (within_ok _ _ _) ?_
              refine gT ?_
              refine oN 1 ?_
              refine oK [1,7,98] ?_
              refine cF ?_
              refine W.skip ?_
              refine hK12 _ ?_
              clear hK12 K12
              refine rEw ?_
              refine ⟨j+1,lf0, ?_,v0⟩
              ·
               first
               | exact ⟨by omega,skip_of km1 him (by simp_all [sclC])⟩
               | exact ⟨by omega,skip_of km2 hjw (by simp_all [triC])⟩
             ·
              replace F:=F.add hs5
              refine W.seqR ?_
              refine oN 4 ?_
              refine oC [] ?_
              refine ct (within_ok _ _ _) ?_
              refine oN 2 ?_
              refine gT ?_
              refine gT ?_
              refine gC [] ?_
              refine ct (within_ok _ _ _) ?_
              refine gT ?_
              refine oN 1 ?_
              refine oK [1,7,98] ?_
              refine cT ?_
              refine rK [2] ?_
              refine W.ret ?_
              refine br (tr (tr (br (tr ?_))))
              clear hK12 K12 hK10 K10
              refine er false [] [] ?_
              have qe:=hit_of (e:=1) km2 hjw (by simp [triC,hs2,hs3,hs4,hs5]) (by decide)
              exact ⟨congrArg I (by rw [checkB_MR,if_neg (Classical.not_not.2 hc1),checkR,four4 qn0 qm0 qd0,qe]),rfl⟩
            ·
             replace F:=F.add hs4
             refine W.seqR ?_
             refine oN 4 ?_
             refine oC [] ?_
             refine ct (within_ok _ _ _) ?_
             refine oN 2 ?_
             refine gF ?_
             refine gF ?_
             refine gF ?_
             refine gF ?_
             refine oN 1 ?_
             refine oK [1,7,98] ?_
             refine cT ?_
             refine rK [2] ?_
             refine W.ret ?_
             refine br (tr (tr (br (tr ?_))))
             clear hK12 K12 hK10 K10
             refine er false [] [] ?_
             have qe:=hit_of (e:=1) km2 hjw (by simp [triC,hs2,hs3,hs4]) (by decide)
             exact ⟨congrArg I (by rw [checkB_MR,if_neg (Classical.not_not.2 hc1),checkR,four4 qn0 qm0 qd0,qe]),rfl⟩
           ·
            replace F:=F.add hs3
            refine W.seqR ?_
            refine oNw 6 ?_
            refine oC [] ?_
            refine ct (within_ok _ _ _) ?_
            refine oN 2 ?_
            refine gT ?_
            refine gT ?_
            refine gT ?_
            refine gT ?_
            refine gT ?_
            refine gTw ?_
            refine gC [] ?_
            refine ct (within_ok _ _ _) ?_
            refine gT ?_
            refine oN 1 ?_
            refine oK [1,7,8,86] ?_
            refine cT ?_
            refine rK [2] ?_
            refine W.ret ?_
            refine tr (br (tr (tr (br (tr ?_)))))
            clear hK13 K13 hK12 K12 hK10 K10
            refine er false [] [] ?_
            have qe:=hit_of (e:=3) km2 hjw (by simp [triC,hs2,hs3]) (by decide)
            exact ⟨congrArg I (by rw [checkB_MR,if_neg (Classical.not_not.2 hc1),checkR,four4 qn0 qm0 qd0,qe]),rfl⟩
          ·
           replace F:=F.add hs2
           refine W.seqR ?_
           refine oNw 6 ?_
           refine oC [] ?_
           refine ct (within_ok _ _ _) ?_
           refine oN 2 ?_
           refine gF ?_
           refine gF ?_
           refine gF ?_
           refine gF ?_
           refine gF ?_
           refine gF ?_
           refine gF ?_
           refine gF ?_
           refine oN 1 ?_
           refine oK [1,7,8,86] ?_
           refine cT ?_
           refine rK [2] ?_
           refine W.ret ?_
           refine tr (br (tr (tr (br (tr ?_)))))
           clear hK13 K13 hK12 K12 hK10 K10
           refine er false [] [] ?_
           have qe:=hit_of (e:=3) km2 hjw (by simp [triC,hs2]) (by decide)
           exact ⟨congrArg I (by rw [checkB_MR,if_neg (Classical.not_not.2 hc1),checkR,four4 qn0 qm0 qd0,qe]),rfl⟩
         ·
          try simp at hc9
          replace F:=F.add hc9
          refine W.exit ?_
          refine hK10 _ ?_
          clear hK11 K11 hK10 K10
          refine rK [2] ?_
          refine W.ret ?_
          refine er false [] [] ?_
          exact ⟨congrArg I (by rw [checkB_MR,if_neg (Classical.not_not.2 hc1),checkR,four4 qn0 qm0 qd0,done_of km2 hc9]),rfl⟩
      ·
       replace F:=F.add hs1
       have qm0:firstNZ sclC b.scl=0:=done_of km1 (by omega)
       have qn0:manyC b.scl.length 3=0:=many0 (List.length_pos_iff.2 hc2) (by omega)
       refine W.seqR ?_
       refine oN 2 ?_
       refine oC [] ?_
       refine ct (within_ok _ _ _) ?_
       refine oN 1 ?_
       refine oK [1,52] ?_
       refine cT ?_
       refine rK [2] ?_
       refine W.ret ?_
       refine tr ?_
       clear hK8 K8
       refine er false [] [] ?_
       have qe:daysC b=1:=by rw [daysC,if_pos (by simpa using hs1)]
       exact ⟨congrArg I (by rw [checkB_MR,if_neg (Classical.not_not.2 hc1),checkR,four3 qn0 qm0 (by rw [qe];decide),qe]),rfl⟩
def vastB (b:Ben):Bool:=decide (20<b.mas.length∨20<b.wei.length∨20<b.scl.length∨20<b.tri.length)
theorem vast_ok (b:Ben):ACalls Tryz.prog 4 [benV b] [] (fun r o=>r=B (vastB b)∧o=[]):=by
 have F:=Fx.nil
 refine ent Tryz.func4 Tryz.ntmps4 Tryz.results4 ?_
 refine rK [1] ?_
 by_cases h1:(20:Int)<b.mas.length
 ·
  replace F:=F.add h1
  refine W.seqR ?_
  refine oN 5 ?_
  refine gF ?_
  refine gF ?_
  refine gF ?_
  refine gF ?_
  refine oN 2 ?_
  refine gF ?_
  refine gF ?_
  refine gF ?_
  refine gF ?_
  refine oN 2 ?_
  refine gF ?_
  refine gF ?_
  refine gF ?_
  refine gF ?_
  refine oN 2 ?_
  refine oK [2] ?_
  refine W.ret ?_
  refine er false [] [] ?_
  refine ⟨congrArg B ?_,rfl⟩
  unfold vastB
  symm
  first
  | exact decide_eq_true (by omega)
  | exact decide_eq_false (by omega)
 ·
  replace F:=F.add h1
  by_cases h2:(20:Int)<b.wei.length
  ·
   replace F:=F.add h2
   refine W.seqR ?_
   refine oN 5 ?_
   refine gT ?_
   refine gT ?_
   refine gT ?_
   refine gT ?_
   refine oN 2 ?_
   refine gF ?_
   refine gF ?_
   refine gF ?_
   refine gF ?_
   refine oN 2 ?_
   refine gF ?_
   refine gF ?_
   refine gF ?_
   refine gF ?_
   refine oN 2 ?_
   refine oK [2] ?_
   refine W.ret ?_
   refine er false [] [] ?_
   refine ⟨congrArg B ?_,rfl⟩
   unfold vastB
   symm
   first
   | exact decide_eq_true (by omega)
   | exact decide_eq_false (by omega)
  ·
   replace F:=F.add h2
   by_cases h3:(20:Int)<b.scl.length
   ·
    replace F:=F.add h3
    refine W.seqR ?_
    refine oN 5 ?_
    refine gT ?_
    refine gT ?_
    refine gT ?_
    refine gT ?_
    refine oN 2 ?_
    refine gT ?_
    refine gT ?_
    refine gT ?_
    refine gT ?_
    refine oN 2 ?_
    refine gF ?_
    refine gF ?_
    refine gF ?_
    refine gF ?_
    refine oN 2 ?_
    refine oK [2] ?_
    refine W.ret ?_
    refine er false [] [] ?_
    refine ⟨congrArg B ?_,rfl⟩
    unfold vastB
    symm
    first
    | exact decide_eq_true (by omega)
    | exact decide_eq_false (by omega)
   ·
    replace F:=F.add h3
    by_cases h4:(20:Int)<b.tri.length
    ·
     replace F:=F.add h4
     refine W.seqR ?_
     refine oN 5 ?_
     refine gT ?_
     refine gT ?_
     refine gT ?_
     refine gT ?_
     refine oN 2 ?_
     refine gT ?_
     refine gT ?_
     refine gT ?_
     refine gT ?_
     refine oN 2 ?_
     refine gT ?_
     refine gT ?_
     refine gT ?_
     refine gT ?_
     refine oN 2 ?_
     refine oK [2] ?_
     refine W.ret ?_
     refine er false [] [] ?_
     refine ⟨congrArg B ?_,rfl⟩
     unfold vastB
     symm
     first
     | exact decide_eq_true (by omega)
     | exact decide_eq_false (by omega)
    ·
     replace F:=F.add h4
     refine W.seqR ?_
     refine oN 5 ?_
     refine gT ?_
     refine gT ?_
     refine gT ?_
     refine gT ?_
     refine oN 2 ?_
     refine gT ?_
     refine gT ?_
     refine gT ?_
     refine gT ?_
     refine oN 2 ?_
     refine gT ?_
     refine gT ?_
     refine gT ?_
     refine gT ?_
     refine oN 2 ?_
     refine oK [2] ?_
     refine W.ret ?_
     refine er false [] [] ?_
     refine ⟨congrArg B ?_,rfl⟩
     unfold vastB
     symm
     first
     | exact decide_eq_true (by omega)
     | exact decide_eq_false (by omega)
end Go.Sim
