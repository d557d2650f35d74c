/- The program's trades: what is valid, ranks, owners, at whom a trader points. -/
import Derived.Test.YtholkejjmookfaaDoorVd
namespace Go.Sim.W6
open Go.Proofs
set_option maxRecDepth 100000
set_option linter.unusedSimpArgs false
set_option linter.unusedVariables false
attribute [-simp] List.map_set List.map_take List.map_drop
theorem take_map' {α β:Type}(f:α→β) (l:List α) (i:Nat):(l.map f).take i=(l.take i).map f:=List.map_take.symm
theorem drop_map' {α β:Type}(f:α→β) (l:List α) (i:Nat):(l.map f).drop i=(l.drop i).map f:=List.map_drop.symm
attribute [local simp] take_map' drop_map'
theorem IndexI_ok (l:List Int) (n:Int):ACalls Tryd.prog 53 [ints l,I n] [] (fun r o=>r=I (if n∈l then l.idxOf n else -1)∧o=[]):=by
 refine ACalls.len (l:=l.map I) (by simp) ⟨_,Tryd.func53,by kernel_rfl,by kernel_rfl⟩ fun hl=>?_
 simp [maxLen_val] at hl
 have F:=Fx.nil
 refine ent Tryd.func53 Tryd.ntmps53 Tryd.results53 ?_
 refine rK [0,1] ?_
 refine W.seqk fun K1 hK1=>?_
 refine rK [0,1,7,8] ?_
 refine W.block ?_
 refine lpa (α:=Nat) [0,1,7] [] [] (fun i=>[(8,I i)]) (fun i=>[]) (fun i=>i≤l.length∧n ∉ l.take i) (fun i=>l.length-i) 0 v0 ?_
 ·
  intro i hI0
  simp only [List.cons_append,List.nil_append]
  try dsimp only at hI0
  obtain ⟨hi,hm1⟩:=hI0
  replace F:=F.add hi
  refine rK [0,1,7,8,9] ?_
  refine W.seqk fun K2 hK2=>?_
  refine it (fun hc1=>?_) (fun hc1=>?_)
  ·
   try simp at hc1
   replace F:=F.add hc1
   refine W.skip ?_
   refine hK2 _ ?_
   clear hK2 K2
   refine W.seqk fun K3 hK3=>?_
   refine W.block ?_
   refine rK [0,1,5,7,8] ?_
   refine rK [0,1,5,7,8,16] ?_
   refine it (fun hc2=>?_) (fun hc2=>?_)
   ·
    try simp at hc2
    replace F:=F.add hc2
    refine rK [4] ?_
    refine W.ret ?_
    refine br (tr (tr (br (tr ?_))))
    clear hK3 K3 hK1 K1
    refine er false [] [] ?_
    subst hc2
    exact ⟨by rw [if_pos (List.getElem_mem _),idxOf_take hm1 hc1 rfl],rfl⟩
   ·
    try simp at hc2
    replace F:=F.add hc2
    refine W.skip ?_
    refine hK3 _ ?_
    clear hK3 K3
    refine rEw ?_
    refine ⟨i+1,lf0, ?_,v0⟩
    ·
     exact ⟨by omega,nmem_take_succ hm1 hc1 (fun h=>hc2 h.symm)⟩
  ·
   try simp at hc1
   replace F:=F.add hc1
   refine W.exit ?_
   refine hK1 _ ?_
   clear hK2 K2 hK1 K1
   refine rK [4] ?_
   refine W.ret ?_
   refine er false [] [] ?_
   exact ⟨by rw [if_neg (nmem_of_take hm1 hc1)],rfl⟩
theorem ContainsI_ok (l:List Int) (n:Int):ACalls Tryd.prog 39 [ints l,I n] [] (fun r o=>r=B (decide (n∈l))∧o=[]):=by
 have F:=Fx.nil
 refine ent Tryd.func39 Tryd.ntmps39 Tryd.results39 ?_
 refine rK [0,1] ?_
 refine W.seqR ?_
 refine oN 2 ?_
 refine oC [] ?_
 refine ct (W6.IndexI_ok _ _) ?_
 refine oN 2 ?_
 refine oK [4] ?_
 refine W.ret ?_
 refine er false [] [] ?_
 refine ⟨?_,rfl⟩
 by_cases h:n∈l<;>simp [h]
theorem place_ok (l:List Turn) (a b n:Int):ACalls Tryd.prog 52 [turns l,.agg [I a,I b],I n] [] (fun r o=>r=I (if (a,b)∈l then l.idxOf (a,b) else n)∧o=[]):=by
 have F:=Fx.nil
 refine ent Tryd.func52 Tryd.ntmps52 Tryd.results52 ?_
 refine rK [0,2,4] ?_
 refine W.seqk fun K1 hK1=>?_
 refine W.seqR ?_
 refine oN 2 ?_
 refine oC [] ?_
 refine ct (W6.Index_ok _ _ _) ?_
 refine oN 1 ?_
 refine oK [2,7] ?_
 refine rK [2,7,12] ?_
 refine it (fun hc1=>?_) (fun hc1=>?_)
 ·
  try simp at hc1
  replace F:=F.add hc1
  refine rK [6] ?_
  refine W.ret ?_
  refine tr ?_
  clear hK1 K1
  refine er false [] [] ?_
  refine ⟨?_,rfl⟩
  by_cases h:(a,b)∈l
  · simp [h]
  · rw [if_neg h] at hc1;omega
 ·
  try simp at hc1
  replace F:=F.add hc1
  refine W.skip ?_
  refine hK1 _ ?_
  clear hK1 K1
  refine rK [6] ?_
  refine W.ret ?_
  refine er false [] [] ?_
  refine ⟨?_,rfl⟩
  by_cases h:(a,b)∈l
  · rw [if_pos h] at hc1;omega
  · simp [h]
def rankI (l:List Turn) (o x:Turn):Int:=if x=o then (l.idxOf o:Int) else if (if x∈l then (l.idxOf x:Int) else 17)<l.idxOf o then (if x∈l then (l.idxOf x:Int) else 17) else 17
theorem idx_len (l:List Turn) (x:Turn):(if x∈l then (l.idxOf x:Int) else (l.length:Int))=l.idxOf x:=by
  by_cases h:x∈l
  · rw [if_pos h]
  · rw [if_neg h,List.idxOf_eq_length h]
theorem rank_ok (ow:List Turn) (lk:List (List Turn)) (i:Nat) (a b:Int) (hi:i<ow.length) (hk:i<lk.length):ACalls Tryd.prog 37 [trade ow lk,I i,.agg [I a,I b]] [] (fun r o=>r=I (rankI lk[i] ow[i] (a,b))∧o=[]):=by
 have F:=Fx.nil
 replace F:=F.add hi |>.add hk
 refine ent Tryd.func37 Tryd.ntmps37 Tryd.results37 ?_
 refine rK [1,3,5] ?_
 refine wD 16 [] [[],[0],[],[2,0,1],[1,0,2,3],[],[5],[],[7,5,6],[6,5,7,8],[],[10],[],[12,10,11],[11,10,12,13],[13,12,10,11,14],[14,11,10,12,13,15,8,7,5,6,9,3,2,0,1,4],[4,1,0,2,3,9,6,5,7,8,15,13,12,10,11,14,16]] ?_
 refine dB [([11,14,15,16,17,18,19,20,21,22,23,24],[],[]),([11,14,15,16,17,18,19,20,21,22,23,24],[true],[]),([9,10,14,15,16,17,18,19,20,21,22,23,24],[false,false],[]),([14,15,16,17,18,19,20,21,22,23,24],[true,true,true],[]),([14,15,16,17,18,19,20,21,22,23,24],[true,true,true,true],[]),([9,10,11,12,13,16,19,20,21,22,23,24],[false,false,false,false,false],[]),([9,10,11,12,13,16,19,20,21,22,23,24],[false,false,false,false,false,true],[]),([9,10,11,12,13,14,15,19,20,21,22,23,24],[false,false,false,false,false,false,false],[]),([9,10,11,12,13,19,20,21,22,23,24],[false,false,false,false,false,true,true,true],[]),([9,10,11,12,13,19,20,21,22,23,24],[false,false,false,false,false,true,true,true,true],[]),([9,10,11,12,13,14,15,16,17,18,21],[false,false,false,false,false,false,false,false,false,false],[]),([9,10,11,12,13,14,15,16,17,18,21],[false,false,false,false,false,false,false,false,false,false,true],[]),([9,10,11,12,13,14,15,16,17,18,19,20],[false,false,false,false,false,false,false,false,false,false,false,false],[]),([9,10,11,12,13,14,15,16,17,18],[false,false,false,false,false,false,false,false,false,false,true,true,true],[]),([9,10,11,12,13,14,15,16,17,18],[false,false,false,false,false,false,false,false,false,false,true,true,true,true],[]),([9,10,11,12,13,14,15,16,17,18],[false,false,false,false,false,false,false,false,false,false,true,true,true,true,true],[])] 0 16 ?_
 refine dD ?_
 refine oC [] ?_
 refine ct (W6.place_ok _ _ _ _) ?_
 refine oN 1 ?_
 refine oK [1,3,5,7] ?_
 refine W.seqk fun K1 hK1=>?_
 refine wD 6 [] [[],[],[1],[],[3,1,2],[2,1,3,4],[4,3,1,2,5,0]] ?_
 refine dB [([27,28,29,30,31],[],[]),([26,29],[false],[]),([26,29],[false,true],[]),([26,27,28],[false,false,false],[]),([26],[false,true,true,true],[]),([26],[false,true,true,true,true],[])] 0 6 ?_
 refine dD ?_
 refine oN 1 ?_
 refine oK [1,3,5,7,32] ?_
 refine it (fun hc1=>?_) (fun hc1=>?_)
 ·
  try simp at hc1
  replace F:=F.add hc1
  refine rK [6] ?_
  refine W.ret ?_
  refine tr ?_
  clear hK1 K1
  refine er false [] [] ?_
  obtain ⟨rfl,rfl⟩:=hc1
  refine ⟨congrArg I ?_,rfl⟩
  rw [rankI,if_pos rfl];exact idx_len _ _
 ·
  try simp at hc1
  replace F:=F.add hc1
  refine W.skip ?_
  refine hK1 _ ?_
  clear hK1 K1
  refine W.seqk fun K2 hK2=>?_
  refine wD 6 [] [[],[0],[],[2,0,1],[1,0,2,3],[],[5,3,2,0,1,4],[4,1,0,2,3,5,6]] ?_
  refine dB [([36,39],[],[]),([36,39],[true],[]),([34,35,39],[false,false],[]),([39],[true,true,true],[]),([39],[true,true,true,true],[]),([34,35,36,37,38],[false,false,false,false,false],[])] 0 6 ?_
  refine dD ?_
  refine oC [] ?_
  refine ct (W6.place_ok _ _ _ _) ?_
  refine oN 1 ?_
  refine oK [7,8] ?_
  refine rK [8,43] ?_
  refine it (fun hc2=>?_) (fun hc2=>?_)
  ·
   try simp at hc2
   replace F:=F.add hc2
   refine rK [6] ?_
   refine W.ret ?_
   refine tr ?_
   clear hK2 K2
   refine er false [] [] ?_
   have e:=idx_len lk[i] ow[i]
   rw [show (if (ow[i].1,ow[i].2)∈lk[i] then (List.idxOf (ow[i].1,ow[i].2) lk[i]:Int) else (lk[i].length:Int))=lk[i].idxOf ow[i] from e] at hc2
   refine ⟨congrArg I ?_,rfl⟩
   rw [rankI,if_neg (fun h=>hc1 (congrArg Prod.fst h) (congrArg Prod.snd h)),if_pos hc2]
  ·
   try simp at hc2
   replace F:=F.add hc2
   refine W.skip ?_
   refine hK2 _ ?_
   clear hK2 K2
   refine rK [6] ?_
   refine W.ret ?_
   refine er false [] [] ?_
   have e:=idx_len lk[i] ow[i]
   rw [show (if (ow[i].1,ow[i].2)∈lk[i] then (List.idxOf (ow[i].1,ow[i].2) lk[i]:Int) else (lk[i].length:Int))=lk[i].idxOf ow[i] from e] at hc2
   refine ⟨congrArg I ?_,rfl⟩
   rw [rankI,if_neg (fun h=>hc1 (congrArg Prod.fst h) (congrArg Prod.snd h)),if_neg (by omega)]
def chkL (pre:List Turn):List Turn→Int
  | []=>0
  | x :: r=>if validT x=false then 1 else if x∈pre then 4 else chkL (pre++[x]) r
def chkO (pre:List Turn):List Turn→List (List Turn)→Int
  | o :: os,l :: ls=>if validT o=false then 1 else if o∈pre then 4 else if 16<l.length then 6 else if chkL [] l=0 then chkO (pre++[o]) os ls else chkL [] l
  | _,_=>0
def checkT (ow:List Turn) (lk:List (List Turn)):Int:=if 8<ow.length then 6 else if lk.length≠ow.length then 2 else chkO [] ow lk
theorem chkO_at {ow:List Turn}{lk:List (List Turn)}{i:Nat}(h1:i<ow.length) (h2:i<lk.length):chkO (ow.take i) (ow.drop i) (lk.drop i)=if validT ow[i]=false then 1 else if ow[i]∈ow.take i then 4 else if 16<lk[i].length then 6 else if chkL [] lk[i]=0 then chkO (ow.take (i+1)) (ow.drop (i+1)) (lk.drop (i+1)) else chkL [] lk[i]:=by
  rw [List.drop_eq_getElem_cons h1,List.drop_eq_getElem_cons h2,chkO,List.take_succ_eq_append_getElem h1]
theorem chkL_at {l:List Turn}{k:Nat}(h:k<l.length):chkL (l.take k) (l.drop k)=if validT l[k]=false then 1 else if l[k]∈l.take k then 4 else chkL (l.take (k+1)) (l.drop (k+1)):=by
  rw [List.drop_eq_getElem_cons h,chkL,List.take_succ_eq_append_getElem h]
theorem Check_ok (ow:List Turn) (lk:List (List Turn)):ACalls Tryd.prog 25 [trade ow lk] [] (fun r o=>r=I (checkT ow lk)∧o=[]):=by
 have F:=Fx.nil
 refine ent Tryd.func25 Tryd.ntmps25 Tryd.results25 ?_
 refine rK [1] ?_
 refine W.seqk fun K1 hK1=>?_
 refine W.block ?_
 refine rK [1,7] ?_
 refine it (fun hc1=>?_) (fun hc1=>?_)
 ·
  try simp at hc1
  replace F:=F.add hc1
  refine rK [2] ?_
  refine W.ret ?_
  refine br (tr ?_)
  clear hK1 K1
  refine er false [] [] ?_
  exact ⟨by rw [checkT,if_pos (by omega)],rfl⟩
 ·
  try simp at hc1
  replace F:=F.add hc1
  refine rK [1,12] ?_
  refine it (fun hc2=>?_) (fun hc2=>?_)
  ·
   try simp at hc2
   replace F:=F.add hc2
   refine rK [2] ?_
   refine W.ret ?_
   refine br (tr ?_)
   clear hK1 K1
   refine er false [] [] ?_
   exact ⟨by rw [checkT,if_neg (by omega),if_pos (by omega)],rfl⟩
  ·
   try simp at hc2
   replace F:=F.add hc2
   refine W.skip ?_
   refine hK1 _ ?_
   clear hK1 K1
   refine W.seqk fun K2 hK2=>?_
   refine rK [1,21,22,23] ?_
   refine W.block ?_
   refine lpa (α:=Nat) [1,21,22] [4,6,30,38,45,52,60,71] [] (fun i=>[(23,I i)]) (fun i=>[]) (fun i=>i≤ow.length∧chkO [] ow lk=chkO (ow.take i) (ow.drop i) (lk.drop i)) (fun i=>ow.length-i) 0 v0 ?_
   ·
    intro i hI0
    simp only [List.cons_append,List.nil_append]
    try dsimp only at hI0
    obtain ⟨hi,he⟩:=hI0
    replace F:=F.add hi
    refine rK [1,21,22,23,24] ?_
    refine W.seqk fun K3 hK3=>?_
    refine it (fun hc3=>?_) (fun hc3=>?_)
    ·
     try simp at hc3
     replace F:=F.add hc3
     refine W.skip ?_
     refine hK3 _ ?_
     clear hK3 K3
     refine W.seqk fun K4 hK4=>?_
     refine W.block ?_
     refine rK [1,3,4,21,22,23] ?_
     refine W.seqk fun K5 hK5=>?_
     refine W.block ?_
     refine W.seqR ?_
     refine oN 1 ?_
     refine oC [] ?_
     refine ct (W6.valid_ok _ _) ?_
     refine oN 2 ?_
     refine oK [1,3,4,21,22,23,28] ?_
     refine it (fun hc4=>?_) (fun hc4=>?_)
     ·
      try simp at hc4
      replace F:=F.add hc4
      refine rK [2] ?_
      refine W.ret ?_
      refine br (tr (br (tr (tr (br (tr ?_))))))
      clear hK5 K5 hK4 K4 hK2 K2
      refine er false [] [] ?_
      refine ⟨congrArg I ?_,rfl⟩
      rw [checkT,if_neg (by omega),if_neg (by omega),he,chkO_at hc3 (by omega),if_pos hc4]
     ·
      try simp at hc4
      replace F:=F.add hc4
      refine wD 5 [] [[],[0],[],[2,0,1],[],[4,1,0,2,3],[3,2,0,1,4,5]] ?_
      refine dB [([35,37],[],[]),([35,37],[true],[]),([33,34,37],[false,false],[]),([37],[true,true,true],[]),([33,34,35,36],[false,false,false,false],[])] 0 5 ?_
      refine dD ?_
      refine oC [] ?_
      refine ct (W6.Contains_ok _ _ _) ?_
      refine oN 1 ?_
      refine oK [1,3,21,22,23,32] ?_
      refine it (fun hc5=>?_) (fun hc5=>?_)
      ·
       try simp at hc5
       replace F:=F.add hc5
       refine rK [2] ?_
       refine W.ret ?_
       refine br (tr (br (tr (tr (br (tr ?_))))))
       clear hK5 K5 hK4 K4 hK2 K2
       refine er false [] [] ?_
       refine ⟨congrArg I ?_,rfl⟩
       rw [checkT,if_neg (by omega),if_neg (by omega),he,chkO_at hc3 (by omega),if_neg (by simp [show validT ow[i]=true from hc4]),if_pos hc5]
      ·
       try simp at hc5
       replace F:=F.add hc5
       have hkl:i<lk.length:=by omega
       replace F:=F.add hkl
       refine rK [1,3,21,22,23,39] ?_
       refine it (fun hc6=>?_) (fun hc6=>?_)
       ·
        try simp at hc6
        replace F:=F.add hc6
        refine rK [2] ?_
        refine W.ret ?_
        refine br (tr (br (tr (tr (br (tr ?_))))))
        clear hK5 K5 hK4 K4 hK2 K2
        refine er false [] [] ?_
        refine ⟨congrArg I ?_,rfl⟩
        rw [checkT,if_neg (by omega),if_neg (by omega),he,chkO_at hc3 (by omega),if_neg (by simp [show validT ow[i]=true from hc4]),if_neg (show ¬ow[i]∈ow.take i from hc5),if_pos (by omega)]
       ·
        try simp at hc6
        replace F:=F.add hc6
        refine W.skip ?_
        refine hK5 _ ?_
        clear hK5 K5
        refine rK [1,3,21,22,23,51,52,53] ?_
        refine W.block ?_
        refine lpa (α:=Nat) [1,3,21,22,23,51,52] [6,60,71] [] (fun k=>[(53,I k)]) (fun k=>[]) (fun k=>k≤lk[i].length∧chkL [] lk[i]=chkL (lk[i].take k) (lk[i].drop k)) (fun k=>lk[i].length-k) 0 v0 ?_
        ·
         intro k hI1
         simp only [List.cons_append,List.nil_append]
         try dsimp only at hI1
         obtain ⟨hk,hf⟩:=hI1
         replace F:=F.add hk
         refine rK [1,3,21,22,23,51,52,53,54] ?_
         refine W.seqk fun K6 hK6=>?_
         refine it (fun hc7=>?_) (fun hc7=>?_)
         ·
          try simp at hc7
          replace F:=F.add hc7
          refine W.skip ?_
          refine hK6 _ ?_
          clear hK6 K6
          refine W.seqk fun K7 hK7=>?_
          refine W.block ?_
          refine rK [1,3,5,6,21,22,23,51,52,53] ?_
          refine W.block ?_
          refine W.seqR ?_
          refine oN 1 ?_
          refine oC [] ?_
          refine ct (W6.valid_ok _ _) ?_
          refine oN 2 ?_
          refine oK [1,3,5,6,21,22,23,51,52,53,58] ?_
          refine it (fun hc8=>?_) (fun hc8=>?_)
          ·
           try simp at hc8
           replace F:=F.add hc8
           refine rK [2] ?_
           refine W.ret ?_
           refine br (br (tr (tr (br (br (tr (tr (br (tr ?_)))))))))
           clear hK7 K7 hK4 K4 hK2 K2
           refine er false [] [] ?_
           refine ⟨congrArg I ?_,rfl⟩
           rw [checkT,if_neg (by omega),if_neg (by omega),he,chkO_at hc3 (by omega),if_neg (by simp [show validT ow[i]=true from hc4]),if_neg (show ¬ow[i]∈ow.take i from hc5),if_neg (by omega),hf,chkL_at hc7,if_pos hc8];rfl
          ·
           try simp at hc8
           replace F:=F.add hc8
           refine wD 8 [] [[],[0],[],[2,0,1],[1,0,2,3],[],[5,3,2,0,1,4],[],[7,4,1,0,2,3,5,6],[6,5,3,2,0,1,4,7,8]] ?_
           refine dB [([65,68,70],[],[]),([65,68,70],[true],[]),([63,64,68,70],[false,false],[]),([68,70],[true,true,true],[]),([68,70],[true,true,true,true],[]),([63,64,65,66,67,70],[false,false,false,false,false],[]),([70],[true,true,true,true,true,true],[]),([63,64,65,66,67,68,69],[false,false,false,false,false,false,false],[])] 0 8 ?_
           refine dD ?_
           refine oC [] ?_
           refine ct (W6.Contains_ok _ _ _) ?_
           refine oN 1 ?_
           refine oK [1,3,21,22,23,51,52,53,62] ?_
           refine it (fun hc9=>?_) (fun hc9=>?_)
           ·
            try simp at hc9
            replace F:=F.add hc9
            refine rK [2] ?_
            refine W.ret ?_
            refine br (br (tr (tr (br (br (tr (tr (br (tr ?_)))))))))
            clear hK7 K7 hK4 K4 hK2 K2
            refine er false [] [] ?_
            refine ⟨congrArg I ?_,rfl⟩
            rw [checkT,if_neg (by omega),if_neg (by omega),he,chkO_at hc3 (by omega),if_neg (by simp [show validT ow[i]=true from hc4]),if_neg (show ¬ow[i]∈ow.take i from hc5),if_neg (by omega),hf,chkL_at hc7,if_neg (show ¬validT lk[i][k]=false by simp [show validT lk[i][k]=true from hc8]),if_pos (show lk[i][k]∈lk[i].take k from hc9)];rfl
           ·
            try simp at hc9
            replace F:=F.add hc9
            refine W.skip ?_
            refine hK7 _ ?_
            clear hK7 K7
            refine rEw ?_
            refine ⟨k+1,lf0, ?_,v0⟩
            ·
             exact ⟨by omega,by rw [hf,chkL_at hc7,if_neg (by simp [show validT lk[i][k]=true from hc8]),if_neg hc9]⟩
         ·
          try simp at hc7
          replace F:=F.add hc7
          refine W.exit ?_
          refine hK4 _ ?_
          clear hK6 K6 hK4 K4
          refine rEw ?_
          refine ⟨i+1,lf0, ?_,v0⟩
          ·
           exact ⟨by omega,by rw [he,chkO_at hc3 (by omega),if_neg (by simp [show validT ow[i]=true from hc4]),if_neg (show ¬ow[i]∈ow.take i from hc5),if_neg (by omega),if_pos (by rw [hf,List.drop_of_length_le hc7];rfl)]⟩
    ·
     try simp at hc3
     replace F:=F.add hc3
     refine W.exit ?_
     refine hK2 _ ?_
     clear hK3 K3 hK2 K2
     refine rK [2] ?_
     refine W.ret ?_
     refine er false [] [] ?_
     refine ⟨congrArg I ?_,rfl⟩
     rw [checkT,if_neg (by omega),if_neg (by omega),he,List.drop_of_length_le hc3];rfl
theorem chkL_zero : ∀ {l pre : List Turn}, chkL pre l = 0 → l.Nodup ∧ (∀ x ∈ l, validT x = true) ∧ ∀ x ∈ l, x ∉ pre
  | [],pre,_=>⟨List.nodup_nil,fun x hx=>by simp at hx,fun x hx=>by simp at hx⟩
  | x :: r, pre, h => by
    rw [chkL] at h
    split at h
    · cases h
    · rename_i hv
      split at h
      · cases h
      · rename_i hp
        obtain ⟨h1,h2,h3⟩:=chkL_zero h
        refine ⟨List.nodup_cons.2 ⟨fun hx=>h3 x hx (by simp),h1⟩,fun y hy=>?_,fun y hy=>?_⟩
        · rcases List.mem_cons.1 hy with rfl | hy
          · simpa using hv
          · exact h2 y hy
        · rcases List.mem_cons.1 hy with rfl | hy
          · exact hp
          · exact fun hm=>h3 y hy (by simp [hm])
theorem chkL_good:∀ {l pre:List Turn},l.Nodup→(∀x∈l,validT x=true)→(∀x∈l,x ∉ pre)→chkL pre l=0
  | [],pre,_,_,_=>rfl
  | x :: r,pre,h1,h2,h3=>by
    rw [chkL,if_neg (by simp [h2 x (by simp)]),if_neg (h3 x (by simp))]
    refine chkL_good (List.nodup_cons.1 h1).2 (fun y hy=>h2 y (by simp [hy])) (fun y hy hm=>?_)
    rcases List.mem_append.1 hm with hm | hm
    · exact h3 y (by simp [hy]) hm
    · simp at hm;subst hm;exact (List.nodup_cons.1 h1).1 hy
theorem chkO_zero : ∀ {ow : List Turn} {lk : List (List Turn)} {pre : List Turn}, lk.length = ow.length → chkO pre ow lk = 0 → (ow.Nodup ∧ (∀ x ∈ ow, validT x = true) ∧ ∀ x ∈ ow, x ∉ pre) ∧ ∀ l ∈ lk, GoodTurns l ∧ l.length ≤ 16
  | [],[],pre,_,_=>⟨⟨List.nodup_nil,fun x hx=>by simp at hx,fun x hx=>by simp at hx⟩,fun l hl=>by simp at hl⟩
  | [],_ :: _,pre,h,_=>by simp at h
  | _ :: _,[],pre,h,_=>by simp at h
  | o :: os, l :: ls, pre, hl, h => by
    rw [chkO] at h
    split at h
    · cases h
    · rename_i hv
      split at h
      · cases h
      · rename_i hp
        split at h
        · cases h
        · rename_i h16
          split at h
          · rename_i hz
            obtain ⟨⟨h1,h2,h3⟩,h4⟩:=chkO_zero (by simpa using hl) h
            obtain ⟨g1,g2,_⟩:=chkL_zero hz
            refine ⟨⟨List.nodup_cons.2 ⟨fun hx=>h3 o hx (by simp),h1⟩,fun y hy=>?_,fun y hy=>?_⟩,fun m hm=>?_⟩
            · rcases List.mem_cons.1 hy with rfl | hy
              · simpa using hv
              · exact h2 y hy
            · rcases List.mem_cons.1 hy with rfl | hy
              · exact hp
              · exact fun hm=>h3 y hy (by simp [hm])
            · rcases List.mem_cons.1 hm with rfl | hm
              · exact ⟨⟨g1,g2⟩,by omega⟩
              · exact h4 m hm
          · rename_i hz;exact absurd h hz
theorem chkO_good:∀ {ow:List Turn}{lk:List (List Turn)}{pre:List Turn},ow.Nodup→(∀x∈ow,validT x=true)→(∀x∈ow,x ∉ pre)→(∀l∈lk,GoodTurns l∧l.length≤16)→chkO pre ow lk=0
  | [],lk,pre,_,_,_,_=>by simp [chkO]
  | _ :: _,[],pre,_,_,_,_=>by simp [chkO]
  | o :: os,l :: ls,pre,h1,h2,h3,h4=>by
    have hl:=h4 l (by simp)
    rw [chkO,if_neg (by simp [h2 o (by simp)]),if_neg (h3 o (by simp)),if_neg (by omega),if_pos (chkL_good hl.1.1 hl.1.2 (fun x _=>by simp))]
    refine chkO_good (List.nodup_cons.1 h1).2 (fun y hy=>h2 y (by simp [hy])) (fun y hy hm=>?_) (fun m hm=>h4 m (by simp [hm]))
    rcases List.mem_append.1 hm with hm | hm
    · exact h3 y (by simp [hy]) hm
    · simp at hm;subst hm;exact (List.nodup_cons.1 h1).1 hy
structure ValidT (ow:List Turn) (lk:List (List Turn)):Prop where
  most:ow.length≤8
  same:lk.length=ow.length
  owns:GoodTurns ow
  likes:∀l∈lk,GoodTurns l∧l.length≤16
theorem checkT_zero {ow : List Turn} {lk : List (List Turn)} : checkT ow lk = 0 ↔ ValidT ow lk := by
  constructor
  · intro h
    rw [checkT] at h
    split at h
    · cases h
    · rename_i h1
      split at h
      · cases h
      · rename_i h2
        have h2' : lk.length=ow.length:=by omega
        obtain ⟨⟨g1,g2,_⟩,g3⟩:=chkO_zero h2' h
        exact ⟨by omega,h2',⟨g1,g2⟩,g3⟩
  · rintro ⟨h1,h2,h3,h4⟩
    rw [checkT,if_neg (by omega),if_neg (by omega)]
    exact chkO_good h3.1 h3.2 (fun x _=>by simp) h4
theorem wfI {n:Int}(h1 : -9223372036854775808≤n) (h2:n<9223372036854775808):(Lit.int .i64 n).wf=true:=by
  have e1:IntKind.i64.min = -9223372036854775808:=by decide
  have e2:IntKind.i64.max=9223372036854775807:=by decide
  simp only [Lit.wf,e1,e2,Bool.and_eq_true,decide_eq_true_eq];omega
def kT (x:Turn):Value:=.agg #[.int .i64 x.1,.int .i64 x.2]
theorem sameKey_kT (x y:Turn):sameKey (kT x) (kT y)=decide (x=y):=by
  rw [Bool.eq_iff_iff]
  simp [sameKey,kT,eqVals,Prod.ext_iff]
def ownEk (k:Nat):List Turn→List (Value×AV)
  | []=>[]
  | x :: r=>(kT x,I k) :: ownEk (k+1) r
abbrev ownE (ow:List Turn):List (Value×AV):=ownEk 0 ow
theorem ownEk_length:∀(l:List Turn) (k:Nat),(ownEk k l).length=l.length
  | [],_=>rfl
  | _ :: r,k=>by simp [ownEk,ownEk_length r (k+1)]
theorem getM_own (x:Turn):∀(l:List Turn) (k:Nat),getM (kT x) (ownEk k l)=if x∈l then some (I ((k+l.idxOf x:Nat):Int)) else none
  | [],k=>by simp [ownEk,getM]
  | y :: r, k => by
    simp only [ownEk,getM,sameKey_kT,decide_eq_true_eq,getM_own x r (k+1)]
    by_cases h:x=y
    · subst h;simp
    · have hyx:(y==x)=false:=beq_eq_false_iff_ne.2 (fun e=>h e.symm)
      rw [if_neg h,List.idxOf_cons,hyx]
      by_cases hm:x∈r
      · simp [hm];omega
      · simp [hm,h]
theorem setM_own {x:Turn}:∀ {l:List Turn}{k:Nat},x ∉ l→setM (kT x) (I ((k+l.length:Nat):Int)) (ownEk k l)=ownEk k (l++[x])
  | [],k,_=>by simp [ownEk,setM]
  | y :: r,k,h=>by
    have h1:x≠y:=fun e=>h (by simp [e])
    have ih:=setM_own (x:=x) (l:=r) (k:=k+1) (fun hm=>h (by simp [hm]))
    simp only [ownEk,List.cons_append,setM,sameKey_kT,decide_eq_true_eq,if_neg h1,List.length_cons]
    rw [←ih];congr 4;omega
def leftE (l:List Nat):List (Value×AV):=l.map fun (i:Nat)=>(Value.int .i64 (i:Int),B true)
theorem sameKey_int (a b:Int):sameKey (.int .i64 a) (.int .i64 b)=decide (a=b):=by
  rw [Bool.eq_iff_iff];simp [sameKey]
theorem getM_left (n:Nat):∀l:List Nat,getM (.int .i64 n) (leftE l)=if n∈l then some (B true) else none
  | []=>by simp [leftE,getM]
  | y :: r=>by
    have ih:=getM_left n r
    simp only [leftE] at ih
    simp only [leftE,List.map_cons,getM,sameKey_int,decide_eq_true_eq,Int.natCast_inj,ih]
    by_cases h:n=y
    · simp [h]
    · simp [h]
theorem setM_left {n:Nat}:∀ {l:List Nat},n ∉ l→setM (.int .i64 n) (B true) (leftE l)=leftE (l++[n])
  | [],_=>rfl
  | y :: r,h=>by
    have ih:=setM_left (n:=n) (l:=r) (fun hm=>h (by simp [hm]))
    simp only [leftE] at ih ⊢
    have h1:n≠y:=fun e=>h (by simp [e])
    simp only [List.cons_append,List.map_cons,setM,sameKey_int,decide_eq_true_eq,Int.natCast_inj,if_neg h1,ih]
theorem delM_left (n:Nat):∀l:List Nat,delM (.int .i64 n) (leftE l)=leftE (l.erase n)
  | []=>rfl
  | y :: r=>by
    have ih:=delM_left n r
    simp only [leftE] at ih ⊢
    simp only [List.map_cons,delM,sameKey_int,decide_eq_true_eq,Int.natCast_inj,ih,List.erase_cons,beq_iff_eq]
    by_cases h:n=y
    · simp [h]
    · simp [h,Ne.symm h]
theorem leftE_length (l:List Nat):(leftE l).length=l.length:=by simp [leftE]
theorem validT_range {x:Turn}(h:validT x=true):(0≤x.1∧x.1≤7)∧0≤x.2∧x.2≤6:=by
  simp only [validT,Bool.and_eq_true,decide_eq_true_eq] at h;omega
abbrev shT:Value:=.agg #[.int .i64 0,.int .i64 0]
theorem owners_ok (ow:List Turn) (lk:List (List Turn)) (hg:GoodTurns ow) (ho:ow.length≤8):ACalls Tryd.prog 47 [trade ow lk] [] (fun r o=>r = .map 20000∧o=[(20000,.mp true shT (ownE ow))]):=by
 have F:=Fx.nil
 refine ent Tryd.func47 Tryd.ntmps47 Tryd.results47 ?_
 refine rK [1] ?_
 refine rK [1,3] ?_
 refine W.seqk fun K1 hK1=>?_
 refine rK [3,8,9,10] ?_
 refine W.block ?_
 refine lp (α:=Nat) [3,8,9] [5] [48] (fun i=>[(10,I i)]) (fun i=>[(48,.mp true shT (ownE (ow.take i)))]) (fun i=>i≤ow.length) (fun i=>ow.length-i) 0 ?_ ?_ v0 ?_
 ·
  exact v1
 ·
  try (simp [Fx.get F])
  all_goals (
   rfl
  )
 ·
  intro i hI0
  simp only [List.cons_append,List.nil_append]
  try dsimp only at hI0
  replace F:=F.add hI0
  refine rK [3,8,9,10,11] ?_
  refine W.seqk fun K2 hK2=>?_
  refine it (fun hc1=>?_) (fun hc1=>?_)
  ·
   try simp at hc1
   replace F:=F.add hc1
   refine W.skip ?_
   refine hK2 _ ?_
   clear hK2 K2
   refine W.seqk fun K3 hK3=>?_
   refine W.block ?_
   refine rK [3,4,5,8,9,10] ?_
   have hr:=validT_range (hg.2 _ (List.getElem_mem hc1))
   have hw1:(Lit.int .i64 ow[i].1).wf=true:=wfI (by omega) (by omega)
   have hw2:(Lit.int .i64 ow[i].2).wf=true:=wfI (by omega) (by omega)
   have hle:(ownEk 0 (List.take i ow)).length=i:=by rw [ownEk_length];simp;omega
   have hset:setM (.agg #[.int .i64 ow[i].1,.int .i64 ow[i].2]) (I i) (ownEk 0 (ow.take i))=ownEk 0 (ow.take (i+1)):=by
     have h1:ow[i] ∉ ow.take i:=fun hm=>by
       obtain ⟨j,hj,e⟩:=List.getElem_of_mem hm
       simp only [List.length_take] at hj
       rw [List.getElem_take] at e
       exact List.pairwise_iff_getElem.1 hg.1 j i (by omega) hc1 (by omega) e
     have h2:=setM_own (k:=0) h1
     rw [←List.take_succ_eq_append_getElem hc1] at h2
     rw [←h2,List.length_take,Nat.min_eq_left hI0];simp [kT]
   replace F:=F.add hr |>.add hw1 |>.add hw2 |>.add hle |>.add hset
   refine rEw ?_
   refine hK3 _ ?_
   clear hK3 K3
   refine rEw ?_
   refine ⟨i+1,lf0,v0,v0⟩
  ·
   try simp at hc1
   replace F:=F.add hc1
   refine W.exit ?_
   refine hK1 _ ?_
   clear hK2 K2 hK1 K1
   refine rK [2] ?_
   refine W.ret ?_
   refine er false [] [(20000,48)] ?_
   rw [List.take_of_length_le hc1];exact ⟨rfl,rfl⟩
end Go.Sim.W6
