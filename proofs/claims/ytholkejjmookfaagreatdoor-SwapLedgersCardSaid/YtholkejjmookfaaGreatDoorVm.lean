/- The reference's check, rings and swap. -/
import Derived.Test.YtholkejjmookfaaGreatDoorVl
namespace Go.Sim.W6
open Go.Proofs Go.Plain
set_option maxRecDepth 100000
set_option linter.unusedSimpArgs false
set_option linter.unusedVariables false
attribute [-simp] List.map_set List.map_take List.map_drop
attribute [local simp] take_map' drop_map'
theorem idx_take_lt {l:List Turn}{i:Nat}(h:i<l.length):(l.take i).idxOf l[i]<i↔l[i]∈l.take i:=by
  have:=List.idxOf_lt_length_iff (a:=l[i]) (l:=l.take i)
  rwa [List.length_take,Nat.min_eq_left (by omega)] at this
set_option maxHeartbeats 4000000 in
theorem rCheck_ok (ow:List Turn) (lk:List (List Turn)):ACalls Tryz.prog 34 [trade ow lk] [] (fun r o=>r=I (checkT ow lk)∧o=[]):=by
 have F:=Fx.nil
 refine ent Tryz.func34 Tryz.ntmps34 Tryz.results34 ?_
 refine rK [1] ?_
 refine W.seqk fun K1 hK1=>?_
 refine rK [1,9] ?_
 refine it (fun hc1=>?_) (fun hc1=>?_)
 ·
  try simp at hc1
  replace F:=F.add hc1
  refine rK [2] ?_
  refine W.ret ?_
  refine tr ?_
  clear hK1 K1
  refine er false [] [] ?_
  exact ⟨by rw [checkT,if_pos (by omega)],rfl⟩
 ·
  try simp at hc1
  replace F:=F.add hc1
  refine W.skip ?_
  refine hK1 _ ?_
  clear hK1 K1
  refine W.seqk fun K2 hK2=>?_
  refine rK [1,16] ?_
  refine it (fun hc2=>?_) (fun hc2=>?_)
  ·
   try simp at hc2
   replace F:=F.add hc2
   refine rK [2] ?_
   refine W.ret ?_
   refine tr ?_
   clear hK2 K2
   refine er false [] [] ?_
   exact ⟨by rw [checkT,if_neg (by omega),if_pos (by omega)],rfl⟩
  ·
   try simp at hc2
   replace F:=F.add hc2
   refine W.skip ?_
   refine hK2 _ ?_
   clear hK2 K2
   refine W.seqk fun K3 hK3=>?_
   refine rK [1,3] ?_
   refine W.block ?_
   refine lpa (α:=Nat) [1] [20,29,40,49,53,61,70] [] (fun i=>[(3,I i)]) (fun i=>[]) (fun i=>i≤ow.length∧chkO [] ow lk=chkO (ow.take i) (ow.drop i) (lk.drop i)) (fun i=>ow.length-i) 0 v0 ?_
   ·
    intro i hI0
    simp only [List.cons_append,List.nil_append]
    try dsimp only at hI0
    obtain ⟨hi,he⟩:=hI0
    replace F:=F.add hi
    refine W.seqk fun K4 hK4=>?_
    refine rK [1,3,21] ?_
    refine it (fun hc3=>?_) (fun hc3=>?_)
    ·
     try simp at hc3
     replace F:=F.add hc3
     have qix:=idx_take_lt hc3
     refine W.skip ?_
     refine hK4 _ ?_
     clear hK4 K4
     refine W.seqk fun K5 hK5=>?_
     refine W.block ?_
     refine W.seqk fun K6 hK6=>?_
     refine W.seqR ?_
     refine oN 5 ?_
     refine oC [] ?_
     refine ct (W6.rvalid_ok _ _) ?_
     refine oN 1 ?_
     refine oK [1,3,30] ?_
     refine it (fun hc4=>?_) (fun hc4=>?_)
     ·
      try simp at hc4
      replace F:=F.add hc4
      refine rK [2] ?_
      refine W.ret ?_
      refine tr (br (tr (tr (br (tr ?_)))))
      clear hK6 K6 hK5 K5 hK3 K3
      refine er false [] [] ?_
      refine ⟨congrArg I ?_,rfl⟩
      rw [checkT,if_neg (by omega),if_neg (by omega),he,chkO_at hc3 (by omega),if_pos hc4]
     ·
      try simp at hc4
      replace F:=F.add hc4
      refine W.skip ?_
      refine hK6 _ ?_
      clear hK6 K6
      refine W.seqk fun K7 hK7=>?_
      refine wD 11 [] [[],[0],[],[2,0,1],[],[4],[],[6,4,5],[5,4,6,7],[7,6,4,5,8,1,0,2,3],[],[10,3,2,0,1,8,5,4,6,7,9]] ?_
      refine dB [([33,35,36,37,38,39,41],[],[]),([33,35,36,37,38,39,41],[true],[]),([31,32,35,36,37,38,39,41],[false,false],[]),([35,36,37,38,39,41],[true,true,true],[]),([31,32,33,34,37,41],[false,false,false,false],[]),([31,32,33,34,37,41],[false,false,false,false,true],[]),([31,32,33,34,35,36,41],[false,false,false,false,false,false],[]),([31,32,33,34,41],[false,false,false,false,true,true,true],[]),([31,32,33,34,41],[false,false,false,false,true,true,true,true],[])] 2 9 ?_
      refine dC [41] [true,true,true,true,true,true,true,true,true] [] [] ?_
      refine cd (W6.At_ok _ _ _) ?_
      refine dB [([31,32,33,34,35,36,37,38,39,40],[false,false,false,false,false,false,false,false,false,false],[])] 0 11 ?_
      refine dD ?_
      refine oN 1 ?_
      refine oK [1,3,42] ?_
      refine it (fun hc5=>?_) (fun hc5=>?_)
      ·
       try simp at hc5
       replace F:=F.add hc5
       refine rK [2] ?_
       refine W.ret ?_
       refine tr (br (tr (tr (br (tr ?_)))))
       clear hK7 K7 hK5 K5 hK3 K3
       refine er false [] [] ?_
       refine ⟨congrArg I ?_,rfl⟩
       rw [checkT,if_neg (by omega),if_neg (by omega),he,chkO_at hc3 (by omega),if_neg (by simp [show validT ow[i]=true from hc4]),if_pos (qix.1 hc5)]
      ·
       try simp at hc5
       replace F:=F.add hc5
       refine W.skip ?_
       refine hK7 _ ?_
       clear hK7 K7
       have hkl:i<lk.length:=by omega
       replace F:=F.add hkl
       refine rK [1,3,4] ?_
       refine W.seqk fun K8 hK8=>?_
       refine rK [1,3,4,50] ?_
       refine it (fun hc6=>?_) (fun hc6=>?_)
       ·
        try simp at hc6
        replace F:=F.add hc6
        refine rK [2] ?_
        refine W.ret ?_
        refine tr (br (tr (tr (br (tr ?_)))))
        clear hK8 K8 hK5 K5 hK3 K3
        refine er false [] [] ?_
        refine ⟨congrArg I ?_,rfl⟩
        rw [checkT,if_neg (by omega),if_neg (by omega),he,chkO_at hc3 (by omega),if_neg (by simp [show validT ow[i]=true from hc4]),if_neg (fun h=>by have:=qix.2 h;have h5:i≤(ow.take i).idxOf ow[i]:=hc5;omega),if_pos (by omega)]
       ·
        try simp at hc6
        replace F:=F.add hc6
        refine W.skip ?_
        refine hK8 _ ?_
        clear hK8 K8
        refine rK [1,3,4,5] ?_
        refine W.block ?_
        refine lpa (α:=Nat) [1,3,4] [53,61,70] [] (fun k=>[(5,I k)]) (fun k=>[]) (fun k=>k≤lk[i].length∧chkL [] lk[i]=chkL (lk[i].take k) (lk[i].drop k)) (fun k=>lk[i].length-k) 0 v0 ?_
        ·
         intro k hI1
         simp only [List.cons_append,List.nil_append]
         try dsimp only at hI1
         obtain ⟨hk,hf⟩:=hI1
         replace F:=F.add hk
         refine W.seqk fun K9 hK9=>?_
         refine rK [1,3,4,5,54] ?_
         refine it (fun hc7=>?_) (fun hc7=>?_)
         ·
          try simp at hc7
          replace F:=F.add hc7
          have qixk:=idx_take_lt (l:=lk[i]) hc7
          refine W.skip ?_
          refine hK9 _ ?_
          clear hK9 K9
          refine W.seqk fun K10 hK10=>?_
          refine W.block ?_
          refine W.seqk fun K11 hK11=>?_
          refine W.seqR ?_
          refine oN 4 ?_
          refine oC [] ?_
          refine ct (W6.rvalid_ok _ _) ?_
          refine oN 1 ?_
          refine oK [1,3,4,5,62] ?_
          refine it (fun hc8=>?_) (fun hc8=>?_)
          ·
           try simp at hc8
           replace F:=F.add hc8
           refine rK [2] ?_
           refine W.ret ?_
           refine tr (br (tr (tr (br (br (tr (tr (br (tr ?_)))))))))
           clear hK11 K11 hK10 K10 hK5 K5 hK3 K3
           refine er false [] [] ?_
           refine ⟨congrArg I ?_,rfl⟩
           rw [checkT,if_neg (by omega),if_neg (by omega),he,chkO_at hc3 (by omega),if_neg (by simp [show validT ow[i]=true from hc4]),if_neg (fun h=>by have:=qix.2 h;have h5:i≤(ow.take i).idxOf ow[i]:=hc5;omega),if_neg (by omega),hf,chkL_at hc7,if_pos hc8];rfl
          ·
           try simp at hc8
           replace F:=F.add hc8
           refine W.skip ?_
           refine hK11 _ ?_
           clear hK11 K11
           refine wD 9 [] [[],[],[1,0],[],[],[4,3],[3,4,5],[5,4,3,6,0,1,2],[],[8,2,1,0,6,3,4,5,7]] ?_
           refine dB [([64,66,67,68,69,71],[],[]),([63,66,67,68,69,71],[false],[]),([66,67,68,69,71],[true,true],[]),([63,64,65,67,71],[false,false,false],[]),([63,64,65,66,71],[false,false,false,false],[]),([63,64,65,71],[false,false,false,true,true],[]),([63,64,65,71],[false,false,false,true,true,true],[])] 2 7 ?_
           refine dC [71] [true,true,true,true,true,true,true] [] [] ?_
           refine cd (W6.At_ok _ _ _) ?_
           refine dB [([63,64,65,66,67,68,69,70],[false,false,false,false,false,false,false,false],[])] 0 9 ?_
           refine dD ?_
           refine oN 1 ?_
           refine oK [1,3,4,5,72] ?_
           refine it (fun hc9=>?_) (fun hc9=>?_)
           ·
            try simp at hc9
            replace F:=F.add hc9
            refine rK [2] ?_
            refine W.ret ?_
            refine br (tr (tr (br (br (tr (tr (br (tr ?_))))))))
            clear hK10 K10 hK5 K5 hK3 K3
            refine er false [] [] ?_
            refine ⟨congrArg I ?_,rfl⟩
            rw [checkT,if_neg (by omega),if_neg (by omega),he,chkO_at hc3 (by omega),if_neg (by simp [show validT ow[i]=true from hc4]),if_neg (fun h=>by have:=qix.2 h;have h5:i≤(ow.take i).idxOf ow[i]:=hc5;omega),if_neg (by omega),hf,chkL_at hc7,if_neg (show ¬validT lk[i][k]=false by simp [show validT lk[i][k]=true from hc8]),if_pos (qixk.1 hc9)];rfl
           ·
            try simp at hc9
            replace F:=F.add hc9
            refine W.skip ?_
            refine hK10 _ ?_
            clear hK10 K10
            refine rEw ?_
            refine ⟨k+1,lf0, ?_,v0⟩
            ·
             exact ⟨by omega,by rw [hf,chkL_at hc7,if_neg (by simp [show validT lk[i][k]=true from hc8]),if_neg (fun h=>by have:=qixk.2 h;have h5:k≤(lk[i].take k).idxOf lk[i][k]:=hc9;omega)]⟩
         ·
          try simp at hc7
          replace F:=F.add hc7
          refine W.exit ?_
          refine hK5 _ ?_
          clear hK9 K9 hK5 K5
          refine rEw ?_
          refine ⟨i+1,lf0, ?_,v0⟩
          ·
           exact ⟨by omega,by rw [he,chkO_at hc3 (by omega),if_neg (by simp [show validT ow[i]=true from hc4]),if_neg (fun h=>by have:=qix.2 h;have h5:i≤(ow.take i).idxOf ow[i]:=hc5;omega),if_neg (by omega),if_pos (by rw [hf,List.drop_of_length_le hc7];rfl)]⟩
    ·
     try simp at hc3
     replace F:=F.add hc3
     refine W.exit ?_
     refine hK3 _ ?_
     clear hK4 K4 hK3 K3
     refine rK [2] ?_
     refine W.ret ?_
     refine er false [] [] ?_
     refine ⟨congrArg I ?_,rfl⟩
     rw [checkT,if_neg (by omega),if_neg (by omega),he,List.drop_of_length_le hc3];rfl
end Go.Sim.W6
