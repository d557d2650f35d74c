/- Lettings: what is a valid one. -/
import Derived.Test.YtadlbdekaehipaaDoorKa
namespace Go.Sim
set_option maxHeartbeats 4000000
open Go.Proofs
set_option maxRecDepth 100000
set_option linter.unusedSimpArgs false
set_option linter.unusedVariables false
attribute [-simp] List.map_set List.map_take List.map_drop
theorem take_map' {α β:Type}(f:α→β) (l:List α) (i:Nat):(l.map f).take i=(l.take i).map f:=List.map_take.symm
theorem drop_map' {α β:Type}(f:α→β) (l:List α) (i:Nat):(l.map f).drop i=(l.drop i).map f:=List.map_drop.symm
attribute [simp] take_map' drop_map'
structure Stl where
  rule:Int
  least:Int
  heir:Int
  deriving DecidableEq
structure App where
  years:Int
  token:Int
  wishes:List Int
  bids:List Int
  deriving DecidableEq
structure Lett where
  stalls:List Stl
  apps:List App
  deriving DecidableEq
instance:NthD Stl:=⟨⟨0,0,0⟩⟩
instance:NthD App:=⟨⟨0,0,[],[]⟩⟩
def S3 (x:Stl):AV:=.agg [I x.rule,I x.least,I x.heir]
def A4 (x:App):AV:=.agg [I x.years,I x.token,ints x.wishes,ints x.bids]
theorem S3_def (x:Stl):S3 x = .agg [I x.rule,I x.least,I x.heir]:=rfl
theorem A4_def (x:App):A4 x = .agg [I x.years,I x.token,ints x.wishes,ints x.bids]:=rfl
attribute [simp] S3_def A4_def
abbrev stalls (l:List Stl):AV:=.imm (l.map S3)
abbrev apps (l:List App):AV:=.imm (l.map A4)
abbrev letV (l:Lett):AV:=.agg [stalls l.stalls,apps l.apps]
def firstNZ {α:Type}(f:α→Int):List α→Int
  | []=>0
  | x :: xs=>if f x=0 then firstNZ f xs else f x
theorem firstNZ_hit {α:Type}{f:α→Int}{l:List α}{i:Nat}(h:i<l.length) (hf:¬f l[i]=0):firstNZ f (l.drop i)=f l[i]:=by
  rw [List.drop_eq_getElem_cons h,firstNZ,if_neg hf]
theorem firstNZ_skip {α:Type}{f:α→Int}{l:List α}{i:Nat}(h:i<l.length) (hf:f l[i]=0):firstNZ f (l.drop i)=firstNZ f (l.drop (i+1)):=by
  rw [List.drop_eq_getElem_cons h,firstNZ,if_pos hf]
theorem firstNZ_done {α:Type}{f:α→Int}{l:List α}{i:Nat}(h:l.length≤i):firstNZ f (l.drop i)=0:=by
  rw [List.drop_of_length_le h];rfl
theorem firstNZ_zero {α:Type}{f:α→Int}:∀ {l:List α},firstNZ f l=0↔∀x∈l,f x=0
  | []=>by simp [firstNZ]
  | x :: xs=>by
    by_cases h:f x=0
    · simp [firstNZ,h,firstNZ_zero (l:=xs)]
    · simp [firstNZ,h]
def stlErr (n:Nat) (s:Stl):Int:=if ¬(1≤s.rule∧s.rule≤3) then 8 else if ¬(0≤s.least∧s.least≤1000000) then 1 else if ¬(-1≤s.heir∧s.heir≤(n:Int)-1) then 3 else 0
def wishG (n:Nat) (l:List Int) (i:Nat):Int:=if ¬(0≤nth l i∧nth l i≤(n:Int)-1) then 3 else if nth l i∈l.take i then 4 else 0
def wishErr (n:Nat) (l:List Int):Int:=firstNZ (wishG n l) (List.range l.length)
def bidBad (n:Int):Bool:=!decide (0≤n)||!decide (n≤1000000)
def appErr (n:Nat) (a:App):Int:=
  if ¬((0≤a.years∧a.years≤60)∧(0≤a.token∧a.token≤1000000000)) then 1
  else if wishErr n a.wishes≠0 then wishErr n a.wishes
  else if a.bids.length≠a.wishes.length then 2
  else if a.bids.any bidBad=true then 1 else 0
def checkL (l:Lett):Int:=
  if l.stalls.length=0 then 7 else if 8<l.stalls.length then 6
  else if firstNZ (stlErr l.apps.length) l.stalls≠0 then firstNZ (stlErr l.apps.length) l.stalls
  else if 8<l.apps.length then 6 else firstNZ (appErr l.stalls.length) l.apps
theorem wishG_miss {n:Nat}{l:List Int}{i:Nat}(h:i<l.length) (hc:¬(0≤l[i]∧l[i]≤(n:Int)-1)):wishG n l i=3:=by rw [wishG,nth_get h,if_pos hc]
theorem wishG_twice {n:Nat}{l:List Int}{i:Nat}(h:i<l.length) (hc:0≤l[i]∧l[i]≤(n:Int)-1) (h2:l[i]∈l.take i):wishG n l i=4:=by rw [wishG,nth_get h,if_neg (by simpa using hc),if_pos h2]
theorem wishG_ok {n:Nat}{l:List Int}{i:Nat}(h:i<l.length) (hc:0≤l[i]∧l[i]≤(n:Int)-1) (h2:l[i] ∉ l.take i):wishG n l i=0:=by rw [wishG,nth_get h,if_neg (by simpa using hc),if_neg h2]
theorem wish_hit {n:Nat}{l:List Int}{i:Nat}(h:i<l.length){e:Int}(he:wishErr n l=firstNZ (wishG n l) ((List.range l.length).drop i)) (hg:wishG n l i=e) (hz:e≠0):wishErr n l=e:=by
  rw [he,firstNZ_hit (by simpa using h) (by simpa [hg] using hz)];simpa using hg
theorem wish_skip {n:Nat}{l:List Int}{i:Nat}(h:i<l.length) (he:wishErr n l=firstNZ (wishG n l) ((List.range l.length).drop i)) (hg:wishG n l i=0):wishErr n l=firstNZ (wishG n l) ((List.range l.length).drop (i+1)):=by
  rw [he,firstNZ_skip (by simpa using h) (by simpa using hg)]
theorem wish_done {n:Nat}{l:List Int}{i:Nat}(h:l.length≤i) (he:wishErr n l=firstNZ (wishG n l) ((List.range l.length).drop i)):wishErr n l=0:=by
  rw [he,firstNZ_done (by simpa using h)]
theorem in_ok (n lo hi:Int):ACalls Tryd.prog 16 [I n,I lo,I hi] [] (fun r o=>r=B (decide (lo≤n)&&decide (n≤hi))∧o=[]):=by
 have F:=Fx.nil
 refine ent Tryd.func16 Tryd.ntmps16 Tryd.results16 ?_
 refine rK [0,1,2] ?_
 refine W.seqR ?_
 refine oN 4 ?_
 refine gX ?_
 refine gX ?_
 refine gX ?_
 refine oN 2 ?_
 refine oK [6] ?_
 refine W.ret ?_
 exact er0 false [] []
theorem bidBad_ok (n:Int):ACalls Tryd.prog 32 [I n] [] (fun r o=>r=B (bidBad n)∧o=[]):=by
 have F:=Fx.nil
 refine ent Tryd.func32 Tryd.ntmps32 Tryd.results32 ?_
 refine rK [0] ?_
 refine W.seqR ?_
 refine oN 1 ?_
 refine oC [] ?_
 refine ct (in_ok _ _ _) ?_
 refine oN 2 ?_
 refine oK [2] ?_
 refine W.ret ?_
 refine er false [] [] ?_
 exact ⟨rfl,rfl⟩
theorem IndexF_ok (l:List Int):ACalls Tryd.prog 41 [ints l,.clo 32 []] [] (fun r o=>∃z:Int,r=I z∧o=[]∧(0≤z↔l.any bidBad=true)):=by
 refine ACalls.len (l:=l.map I) (by simp) ⟨_,Tryd.func41,by kernel_rfl,by kernel_rfl⟩ fun hl=>?_
 simp [maxLen_val] at hl
 have F:=Fx.nil
 refine ent Tryd.func41 Tryd.ntmps41 Tryd.results41 ?_
 refine rK [0,1] ?_
 refine W.seqk fun K1 hK1=>?_
 refine rK [0,1,7,8] ?_
 refine W.block ?_
 refine lpa (α:=Nat) [0,1,7] [16] [] (fun i=>[(8,I i)]) (fun i=>[]) (fun i=>i≤l.length∧l.any bidBad=(l.drop i).any bidBad) (fun i=>l.length-i) 0 v0 ?_
 ·
  intro i hI0
  simp only [List.cons_append,List.nil_append]
  try dsimp only at hI0
  obtain ⟨hi,hm1⟩:=hI0
  replace F:=F.add hi
  refine rK [0,1,7,8,9] ?_
  refine W.seqk fun K2 hK2=>?_
  refine it (fun hc1=>?_) (fun hc1=>?_)
  ·
   try simp at hc1
   replace F:=F.add hc1
   refine W.skip ?_
   refine hK2 _ ?_
   clear hK2 K2
   refine W.seqk fun K3 hK3=>?_
   refine W.block ?_
   refine rK [0,1,5,7,8] ?_
   refine W.seqR ?_
   refine oN 5 ?_
   refine oC [] ?_
   refine ct (bidBad_ok l[i]) ?_
   refine oK [0,1,5,7,8,16] ?_
   refine it (fun hc2=>?_) (fun hc2=>?_)
   ·
    try simp at hc2
    replace F:=F.add hc2
    refine rK [4] ?_
    refine W.ret ?_
    refine br (tr (tr (br (tr ?_))))
    clear hK3 K3 hK1 K1
    refine er false [] [] ?_
    exact ⟨_,rfl,rfl,by rw [hm1,List.drop_eq_getElem_cons hc1,List.any_cons,hc2];simp⟩
   ·
    try simp at hc2
    replace F:=F.add hc2
    refine W.skip ?_
    refine hK3 _ ?_
    clear hK3 K3
    refine rEw ?_
    refine ⟨i+1,lf0, ?_,v0⟩
    ·
     exact ⟨by omega,by rw [hm1,List.drop_eq_getElem_cons hc1,List.any_cons,show bidBad l[i]=false by simpa using hc2];rfl⟩
  ·
   try simp at hc1
   replace F:=F.add hc1
   refine W.exit ?_
   refine hK1 _ ?_
   clear hK2 K2 hK1 K1
   refine rK [4] ?_
   refine W.ret ?_
   refine er false [] [] ?_
   exact ⟨_,rfl,rfl,by rw [hm1,List.drop_of_length_le hc1];simp⟩
theorem ContainsF_ok (l:List Int):ACalls Tryd.prog 31 [ints l,.clo 32 []] [] (fun r o=>r=B (l.any bidBad)∧o=[]):=by
 have F:=Fx.nil
 refine ent Tryd.func31 Tryd.ntmps31 Tryd.results31 ?_
 refine rK [0,1] ?_
 refine W.seqR ?_
 refine oN 2 ?_
 refine oC [] ?_
 refine CallT.mkE (IndexF_ok l) (fun z7 hz7=>⟨(by simp), ?_⟩)
 refine WOps.norm (by simp;rfl) ?_
 refine oN 2 ?_
 refine oK [4] ?_
 refine W.ret ?_
 refine er false [] [] ?_
 refine ⟨?_,rfl⟩
 cases h:l.any bidBad<;>simp_all
theorem appErr_1 {n:Nat}{a:App}(h:¬((0≤a.years∧a.years≤60)∧(0≤a.token∧a.token≤1000000000))):appErr n a=1:=by rw [appErr,if_pos h]
theorem appErr_w {n:Nat}{a:App}(h:(0≤a.years∧a.years≤60)∧(0≤a.token∧a.token≤1000000000)) (hw:wishErr n a.wishes≠0):appErr n a=wishErr n a.wishes:=by rw [appErr,if_neg (not_not_intro h),if_pos hw]
theorem appErr_2 {n:Nat}{a:App}(h:(0≤a.years∧a.years≤60)∧(0≤a.token∧a.token≤1000000000)) (hw:wishErr n a.wishes=0) (hb:a.bids.length≠a.wishes.length):appErr n a=2:=by rw [appErr,if_neg (not_not_intro h),if_neg (by simpa using hw),if_pos hb]
theorem appErr_b {n:Nat}{a:App}(h:(0≤a.years∧a.years≤60)∧(0≤a.token∧a.token≤1000000000)) (hw:wishErr n a.wishes=0) (hb:a.bids.length=a.wishes.length):appErr n a=if a.bids.any bidBad=true then 1 else 0:=by rw [appErr,if_neg (not_not_intro h),if_neg (by simpa using hw),if_neg (by simpa using hb)]
theorem checkA_ok (l:Lett) (a:App):ACalls Tryd.prog 17 [letV l,A4 a] [] (fun r o=>r=I (appErr l.stalls.length a)∧o=[]):=by
 refine ACalls.lenA (xs:=[stalls l.stalls,apps l.apps]) (l:=l.stalls.map S3) (by simp) (by simp) ⟨_,Tryd.func17,by kernel_rfl,by kernel_rfl⟩ fun hl1=>?_
 simp [maxLen_val] at hl1
 refine ACalls.lenA (xs:=[I a.years,I a.token,ints a.wishes,ints a.bids]) (l:=a.wishes.map I) (by simp) (by simp) ⟨_,Tryd.func17,by kernel_rfl,by kernel_rfl⟩ fun hl2=>?_
 simp [maxLen_val] at hl2
 have F:=Fx.nil
 refine ent Tryd.func17 Tryd.ntmps17 Tryd.results17 ?_
 refine rK [2,3] ?_
 refine W.seqk fun K1 hK1=>?_
 by_cases hy:0≤a.years
 ·
  replace F:=F.add hy
  by_cases hz:a.years≤60
  ·
   replace F:=F.add hz
   by_cases ht:0≤a.token
   ·
    replace F:=F.add ht
    by_cases hk:a.token≤1000000000
    ·
     replace F:=F.add hk
     refine W.seqR ?_
     refine oN 2 ?_
     refine oC [] ?_
     refine ct (in_ok _ _ _) ?_
     refine oN 2 ?_
     refine gT ?_
     refine gT ?_
     refine gC [] ?_
     refine ct (in_ok _ _ _) ?_
     refine gT ?_
     refine oN 1 ?_
     refine oK [2,3,16] ?_
     refine cF ?_
     refine W.skip ?_
     refine hK1 _ ?_
     clear hK1 K1
     refine W.seqk fun K2 hK2=>?_
     refine rK [2,3,18,19,20] ?_
     refine W.block ?_
     refine lpa (α:=Nat) [2,3,18,19] [29,31,39] [] (fun i=>[(20,I i)]) (fun i=>[]) (fun i=>i≤a.wishes.length∧wishErr l.stalls.length a.wishes=firstNZ (wishG l.stalls.length a.wishes) ((List.range a.wishes.length).drop i)) (fun i=>a.wishes.length-i) 0 ?_ ?_
     ·
      exact ⟨Nat.zero_le _,rfl⟩
     ·
      intro i hI0
      simp only [List.cons_append,List.nil_append]
      try dsimp only at hI0
      obtain ⟨hi,hm1⟩:=hI0
      replace F:=F.add hi
      refine rK [2,3,18,19,20,21] ?_
      refine W.seqk fun K3 hK3=>?_
      refine it (fun hc2=>?_) (fun hc2=>?_)
      ·
       try simp at hc2
       replace F:=F.add hc2
       refine W.skip ?_
       refine hK3 _ ?_
       clear hK3 K3
       refine W.seqk fun K4 hK4=>?_
       refine W.block ?_
       refine rK [2,3,5,6,18,19,20] ?_
       refine W.block ?_
       refine W.seqR ?_
       refine oNw 5 ?_
       refine oC [] ?_
       refine ct (in_ok _ _ _) ?_
       refine oN 2 ?_
       refine oK [2,3,5,6,18,19,20,25] ?_
       refine it (fun hc3=>?_) (fun hc3=>?_)
       ·
        try simp at hc3
        replace F:=F.add hc3
        refine rK [4] ?_
        refine W.ret ?_
        refine br (br (tr (tr (br (tr ?_)))))
        clear hK4 K4 hK2 K2
        refine er false [] [] ?_
        have e:=wish_hit hc2 hm1 (wishG_miss hc2 (by omega)) (by decide)
        exact ⟨congrArg I (by rw [appErr_w ⟨⟨hy,hz⟩,ht,hk⟩ (by rw [e];decide),e]),rfl⟩
       ·
        try simp at hc3
        replace F:=F.add hc3
        refine W.seqR ?_
        refine oN 5 ?_
        refine oC [] ?_
        refine ct (ContainsI_ok _ _) ?_
        refine oN 1 ?_
        refine oK [2,3,18,19,20,33] ?_
        refine it (fun hc4=>?_) (fun hc4=>?_)
        ·
         try simp at hc4
         replace F:=F.add hc4
         refine rK [4] ?_
         refine W.ret ?_
         refine br (br (tr (tr (br (tr ?_)))))
         clear hK4 K4 hK2 K2
         refine er false [] [] ?_
         have e:=wish_hit hc2 hm1 (wishG_twice hc2 hc3 hc4) (by decide)
         exact ⟨congrArg I (by rw [appErr_w ⟨⟨hy,hz⟩,ht,hk⟩ (by rw [e];decide),e]),rfl⟩
        ·
         try simp at hc4
         replace F:=F.add hc4
         refine W.skip ?_
         refine hK4 _ ?_
         clear hK4 K4
         refine rEw ?_
         refine ⟨i+1,lf0, ?_,v0⟩
         ·
          exact ⟨by omega,wish_skip hc2 hm1 (wishG_ok hc2 hc3 hc4)⟩
      ·
       try simp at hc2
       replace F:=F.add hc2
       refine W.exit ?_
       refine hK2 _ ?_
       clear hK3 K3 hK2 K2
       refine W.seqk fun K5 hK5=>?_
       refine rK [3,47] ?_
       refine it (fun hc5=>?_) (fun hc5=>?_)
       ·
        try simp at hc5
        replace F:=F.add hc5
        refine rK [4] ?_
        refine W.ret ?_
        refine tr ?_
        clear hK5 K5
        refine er false [] [] ?_
        exact ⟨congrArg I (by rw [appErr_2 ⟨⟨hy,hz⟩,ht,hk⟩ (wish_done hc2 hm1) (by omega)]),rfl⟩
       ·
        try simp at hc5
        replace F:=F.add hc5
        refine W.skip ?_
        refine hK5 _ ?_
        clear hK5 K5
        refine W.seqk fun K6 hK6=>?_
        refine W.seqR ?_
        refine oN 2 ?_
        refine oC [] ?_
        refine ct (ContainsF_ok _) ?_
        refine oK [50] ?_
        refine it (fun hc6=>?_) (fun hc6=>?_)
        ·
         try simp at hc6
         replace F:=F.add hc6
         refine rK [4] ?_
         refine W.ret ?_
         refine tr ?_
         clear hK6 K6
         refine er false [] [] ?_
         exact ⟨congrArg I (by rw [appErr_b ⟨⟨hy,hz⟩,ht,hk⟩ (wish_done hc2 hm1) (by omega),if_pos (List.any_eq_true.2 hc6)]),rfl⟩
        ·
         try simp at hc6
         replace F:=F.add hc6
         refine W.skip ?_
         refine hK6 _ ?_
         clear hK6 K6
         refine rK [4] ?_
         refine W.ret ?_
         refine er false [] [] ?_
         exact ⟨congrArg I (by rw [appErr_b ⟨⟨hy,hz⟩,ht,hk⟩ (wish_done hc2 hm1) (by omega),if_neg (by simpa using hc6)]),rfl⟩
    ·
     replace F:=F.add hk
     have hk1:1000000000<a.token:=by omega
     replace F:=F.add hk1
     refine W.seqR ?_
     refine oN 2 ?_
     refine oC [] ?_
     refine ct (in_ok _ _ _) ?_
     refine oN 2 ?_
     refine gT ?_
     refine gT ?_
     refine gC [] ?_
     refine ct (in_ok _ _ _) ?_
     refine gT ?_
     refine oN 1 ?_
     refine oK [2,3,16] ?_
     refine cT ?_
     refine rK [4] ?_
     refine W.ret ?_
     refine tr ?_
     clear hK1 K1
     refine er false [] [] ?_
     exact ⟨congrArg I (by simp [appErr_1, *]),rfl⟩
   ·
    replace F:=F.add ht
    have ht1:a.token<0:=by omega
    replace F:=F.add ht1
    refine W.seqR ?_
    refine oN 2 ?_
    refine oC [] ?_
    refine ct (in_ok _ _ _) ?_
    refine oN 2 ?_
    refine gT ?_
    refine gT ?_
    refine gC [] ?_
    refine ct (in_ok _ _ _) ?_
    refine gT ?_
    refine oN 1 ?_
    refine oK [2,3,16] ?_
    refine cT ?_
    refine rK [4] ?_
    refine W.ret ?_
    refine tr ?_
    clear hK1 K1
    refine er false [] [] ?_
    exact ⟨congrArg I (by simp [appErr_1, *]),rfl⟩
  ·
   replace F:=F.add hz
   have hz1:60<a.years:=by omega
   replace F:=F.add hz1
   refine W.seqR ?_
   refine oN 2 ?_
   refine oC [] ?_
   refine ct (in_ok _ _ _) ?_
   refine oN 2 ?_
   refine gF ?_
   refine gF ?_
   refine gF ?_
   refine gF ?_
   refine oN 1 ?_
   refine oK [2,3,16] ?_
   refine cT ?_
   refine rK [4] ?_
   refine W.ret ?_
   refine tr ?_
   clear hK1 K1
   refine er false [] [] ?_
   exact ⟨congrArg I (by simp [appErr_1, *]),rfl⟩
 ·
  replace F:=F.add hy
  have hy1:a.years<0:=by omega
  replace F:=F.add hy1
  refine W.seqR ?_
  refine oN 2 ?_
  refine oC [] ?_
  refine ct (in_ok _ _ _) ?_
  refine oN 2 ?_
  refine gF ?_
  refine gF ?_
  refine gF ?_
  refine gF ?_
  refine oN 1 ?_
  refine oK [2,3,16] ?_
  refine cT ?_
  refine rK [4] ?_
  refine W.ret ?_
  refine tr ?_
  clear hK1 K1
  refine er false [] [] ?_
  exact ⟨congrArg I (by simp [appErr_1, *]),rfl⟩
end Go.Sim
