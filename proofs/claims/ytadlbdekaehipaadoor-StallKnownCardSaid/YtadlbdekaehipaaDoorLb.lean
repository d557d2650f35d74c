/- Lettings: what Check says. -/
import Derived.Test.YtadlbdekaehipaaDoorLa
namespace Go.Sim
open Go.Proofs
set_option maxRecDepth 100000
set_option linter.unusedSimpArgs false
set_option linter.unusedVariables false
attribute [-simp] List.map_set List.map_take List.map_drop
theorem checkL_s {l:Lett}{i:Nat}(h0:¬l.stalls=[]) (h8:(l.stalls.length:Int)≤8) (hi:i<l.stalls.length) (he:firstNZ (stlErr l.apps.length) l.stalls=firstNZ (stlErr l.apps.length) (l.stalls.drop i)) (hz:stlErr l.apps.length l.stalls[i]≠0):checkL l=stlErr l.apps.length l.stalls[i]:=by
  have e:=firstNZ_hit (f:=stlErr l.apps.length) hi hz
  rw [checkL,if_neg (by simpa using h0),if_neg (by omega),he,e,if_pos hz]
theorem checkL_6 {l:Lett}{i:Nat}(h0:¬l.stalls=[]) (h8:(l.stalls.length:Int)≤8) (hi:l.stalls.length≤i) (he:firstNZ (stlErr l.apps.length) l.stalls=firstNZ (stlErr l.apps.length) (l.stalls.drop i)) (ha:8<l.apps.length):checkL l=6:=by
  rw [checkL,if_neg (by simpa using h0),if_neg (by omega),he,firstNZ_done hi,if_neg (by simp),if_pos ha]
theorem checkL_a {l:Lett}{i:Nat}(h0:¬l.stalls=[]) (h8:(l.stalls.length:Int)≤8) (hi:l.stalls.length≤i) (he:firstNZ (stlErr l.apps.length) l.stalls=firstNZ (stlErr l.apps.length) (l.stalls.drop i)) (ha:¬8<l.apps.length):checkL l=firstNZ (appErr l.stalls.length) l.apps:=by
  rw [checkL,if_neg (by simpa using h0),if_neg (by omega),he,firstNZ_done hi,if_neg (by simp),if_neg ha]
set_option maxHeartbeats 4000000 in
theorem Check_ok (l:Lett):ACalls Tryd.prog 6 [letV l] [] (fun r o=>r=I (checkL l)∧o=[]):=by
 refine ACalls.lenA (xs:=[stalls l.stalls,apps l.apps]) (l:=l.stalls.map S3) (by simp) (by simp) ⟨_,Tryd.func6,by kernel_rfl,by kernel_rfl⟩ fun hl1=>?_
 simp [maxLen_val] at hl1
 refine ACalls.lenA (xs:=[stalls l.stalls,apps l.apps]) (l:=l.apps.map A4) (by simp) (by simp) ⟨_,Tryd.func6,by kernel_rfl,by kernel_rfl⟩ fun hl2=>?_
 simp [maxLen_val] at hl2
 have F:=Fx.nil
 refine ent Tryd.func6 Tryd.ntmps6 Tryd.results6 ?_
 refine rK [1] ?_
 refine W.seqk fun K1 hK1=>?_
 refine rK [1,3] ?_
 refine W.block ?_
 refine rK [1,3,12] ?_
 refine it (fun hc1=>?_) (fun hc1=>?_)
 ·
  try simp at hc1
  replace F:=F.add hc1
  refine rK [2] ?_
  refine W.ret ?_
  refine br (tr ?_)
  clear hK1 K1
  refine er false [] [] ?_
  exact ⟨congrArg I (by rw [checkL,if_pos (by simp [hc1])]),rfl⟩
 ·
  try simp at hc1
  replace F:=F.add hc1
  refine rK [1,15] ?_
  refine it (fun hc2=>?_) (fun hc2=>?_)
  ·
   try simp at hc2
   replace F:=F.add hc2
   refine rK [2] ?_
   refine W.ret ?_
   refine br (tr ?_)
   clear hK1 K1
   refine er false [] [] ?_
   exact ⟨congrArg I (by rw [checkL,if_neg (by simpa using hc1),if_pos (by omega)]),rfl⟩
  ·
   try simp at hc2
   replace F:=F.add hc2
   refine W.skip ?_
   refine hK1 _ ?_
   clear hK1 K1
   refine W.seqk fun K2 hK2=>?_
   refine rK [1,19,20,21] ?_
   refine W.block ?_
   refine lpa (α:=Nat) [1,19,20] [5,28,33,40,42] [] (fun i=>[(21,I i)]) (fun i=>[]) (fun i=>i≤l.stalls.length∧firstNZ (stlErr l.apps.length) l.stalls=firstNZ (stlErr l.apps.length) (l.stalls.drop i)) (fun i=>l.stalls.length-i) 0 v0 ?_
   ·
    intro i hI0
    simp only [List.cons_append,List.nil_append]
    try dsimp only at hI0
    obtain ⟨hi,hm1⟩:=hI0
    replace F:=F.add hi
    refine rK [1,19,20,21,22] ?_
    refine W.seqk fun K3 hK3=>?_
    refine it (fun hc3=>?_) (fun hc3=>?_)
    ·
     try simp at hc3
     replace F:=F.add hc3
     refine W.skip ?_
     refine hK3 _ ?_
     clear hK3 K3
     refine W.seqk fun K4 hK4=>?_
     refine W.block ?_
     refine rK [1,5,19,20,21] ?_
     refine W.block ?_
     refine W.seqR ?_
     refine oN 2 ?_
     refine oC [] ?_
     refine ct (in_ok _ _ _) ?_
     refine oN 2 ?_
     refine oK [1,5,19,20,21,25] ?_
     refine it (fun hc4=>?_) (fun hc4=>?_)
     ·
      try simp at hc4
      replace F:=F.add hc4
      refine rK [2] ?_
      refine W.ret ?_
      refine br (br (tr (tr (br (tr ?_)))))
      clear hK4 K4 hK2 K2
      refine er false [] [] ?_
      have e:stlErr l.apps.length l.stalls[i]=8:=by
        unfold stlErr
        (repeat' split) <;> first | rfl | omega
      exact ⟨congrArg I (by rw [checkL_s hc1 hc2 hc3 hm1 (by rw [e];decide),e]),rfl⟩
     ·
      try simp at hc4
      replace F:=F.add hc4
      refine W.seqR ?_
      refine oN 2 ?_
      refine oC [] ?_
      refine ct (in_ok _ _ _) ?_
      refine oN 2 ?_
      refine oK [1,5,19,20,21,30] ?_
      refine it (fun hc5=>?_) (fun hc5=>?_)
      ·
       try simp at hc5
       replace F:=F.add hc5
       refine rK [2] ?_
       refine W.ret ?_
       refine br (br (tr (tr (br (tr ?_)))))
       clear hK4 K4 hK2 K2
       refine er false [] [] ?_
       have e:stlErr l.apps.length l.stalls[i]=1:=by
         unfold stlErr
         (repeat' split) <;> first | rfl | omega
       exact ⟨congrArg I (by rw [checkL_s hc1 hc2 hc3 hm1 (by rw [e];decide),e]),rfl⟩
      ·
       try simp at hc5
       replace F:=F.add hc5
       refine W.seqR ?_
       refine oNw 6 ?_
       refine oC [] ?_
       refine ct (in_ok _ _ _) ?_
       refine oN 2 ?_
       refine oK [1,19,20,21,35] ?_
       refine it (fun hc6=>?_) (fun hc6=>?_)
       ·
        try simp at hc6
        replace F:=F.add hc6
        refine rK [2] ?_
        refine W.ret ?_
        refine br (br (tr (tr (br (tr ?_)))))
        clear hK4 K4 hK2 K2
        refine er false [] [] ?_
        have e:stlErr l.apps.length l.stalls[i]=3:=by
          unfold stlErr
          (repeat' split) <;> first | rfl | omega
        exact ⟨congrArg I (by rw [checkL_s hc1 hc2 hc3 hm1 (by rw [e];decide),e]),rfl⟩
       ·
        try simp at hc6
        replace F:=F.add hc6
        refine W.skip ?_
        refine hK4 _ ?_
        clear hK4 K4
        refine rEw ?_
        refine ⟨i+1,lf0, ?_,v0⟩
        ·
         have e:stlErr l.apps.length l.stalls[i]=0:=by
           unfold stlErr
           (repeat' split) <;> first | rfl | omega
         exact ⟨by omega,by rw [hm1,firstNZ_skip hc3 e]⟩
    ·
     try simp at hc3
     replace F:=F.add hc3
     refine W.exit ?_
     refine hK2 _ ?_
     clear hK3 K3 hK2 K2
     refine W.seqk fun K5 hK5=>?_
     refine rK [1,48] ?_
     refine it (fun hc7=>?_) (fun hc7=>?_)
     ·
      try simp at hc7
      replace F:=F.add hc7
      refine rK [2] ?_
      refine W.ret ?_
      refine tr ?_
      clear hK5 K5
      refine er false [] [] ?_
      exact ⟨congrArg I (by rw [checkL_6 hc1 hc2 hc3 hm1 (by omega)]),rfl⟩
     ·
      try simp at hc7
      replace F:=F.add hc7
      refine W.skip ?_
      refine hK5 _ ?_
      clear hK5 K5
      refine W.seqk fun K6 hK6=>?_
      refine rK [1,50,51,52] ?_
      refine W.block ?_
      refine lpa (α:=Nat) [1,50,51] [7,58] [] (fun i=>[(52,I i)]) (fun i=>[]) (fun i=>i≤l.apps.length∧firstNZ (appErr l.stalls.length) l.apps=firstNZ (appErr l.stalls.length) (l.apps.drop i)) (fun i=>l.apps.length-i) 0 v0 ?_
      ·
       intro i hI1
       simp only [List.cons_append,List.nil_append]
       try dsimp only at hI1
       obtain ⟨hi,hm2⟩:=hI1
       replace F:=F.add hi
       refine rK [1,50,51,52,53] ?_
       refine W.seqk fun K7 hK7=>?_
       refine it (fun hc8=>?_) (fun hc8=>?_)
       ·
        try simp at hc8
        replace F:=F.add hc8
        refine W.skip ?_
        refine hK7 _ ?_
        clear hK7 K7
        refine W.seqk fun K8 hK8=>?_
        refine W.block ?_
        refine rK [1,7,50,51,52] ?_
        refine W.seqR ?_
        refine oN 2 ?_
        refine oC [] ?_
        refine ct (checkA_ok _ _) ?_
        refine oN 1 ?_
        refine oK [1,8,50,51,52] ?_
        refine rK [1,8,50,51,52,60] ?_
        refine it (fun hc9=>?_) (fun hc9=>?_)
        ·
         try simp at hc9
         replace F:=F.add hc9
         refine rK [2] ?_
         refine W.ret ?_
         refine br (tr (tr (br (tr ?_))))
         clear hK8 K8 hK6 K6
         refine er false [] [] ?_
         exact ⟨congrArg I (by rw [checkL_a hc1 hc2 hc3 hm1 (by omega),hm2,firstNZ_hit hc8 hc9]),rfl⟩
        ·
         try simp at hc9
         replace F:=F.add hc9
         refine W.skip ?_
         refine hK8 _ ?_
         clear hK8 K8
         refine rEw ?_
         refine ⟨i+1,lf0, ?_,v0⟩
         ·
          exact ⟨by omega,by rw [hm2,firstNZ_skip hc8 hc9]⟩
       ·
        try simp at hc8
        replace F:=F.add hc8
        refine W.exit ?_
        refine hK6 _ ?_
        clear hK7 K7 hK6 K6
        refine rK [2] ?_
        refine W.ret ?_
        refine er false [] [] ?_
        exact ⟨congrArg I (by rw [checkL_a hc1 hc2 hc3 hm1 (by omega),hm2,firstNZ_done hc8]),rfl⟩
end Go.Sim
