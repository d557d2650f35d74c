/- Small functions: on numbers, lists of numbers and of turns. -/
import Derived.Test.YtholkejjmookfaaDoorMd
namespace Go.Sim.W6
open Go.Proofs
set_option maxRecDepth 100000
set_option linter.unusedSimpArgs false
set_option linter.unusedVariables false
theorem hm:Tryd.prog.follows .mixedOrders=true:=by kernel_rfl
abbrev Turn:=Int×Int
def T (x:Turn):AV:=.agg [I x.1,I x.2]
abbrev ints (l:List Int):AV:=.imm (l.map I)
abbrev turns (l:List Turn):AV:=.imm (l.map T)
theorem T_def (x:Turn):T x = .agg [I x.1,I x.2]:=rfl
theorem turn_beq (a b:Turn):(a.1==b.1&&a.2==b.2)=(a==b):=rfl
theorem ite_B (c:Prop) [Decidable c] (a b:Bool):(if c then B a else B b)=B (if c then a else b):=by split<;>rfl
theorem ite_I (c:Prop) [Decidable c] (a b:Int):(if c then I a else I b)=I (if c then a else b):=by split<;>rfl
theorem ite_ite_l {α:Type}(c:Prop) [Decidable c] (a b d:α):(if c then (if c then a else b) else d)=if c then a else d:=by split<;>rfl
theorem set_mapI (l:List Int) (i:Nat) (v:Int):(l.map I).set i (I v)=(l.set i v).map I:=List.map_set.symm
theorem set_mapB (l:List Bool) (i:Nat) (v:Bool):(l.map B).set i (B v)=(l.set i v).map B:=List.map_set.symm
theorem set_mapT (l:List Turn) (i:Nat) (a b:Int):(l.map T).set i (.agg [I a,I b])=(l.set i (a,b)).map T:=by rw [List.map_set];rfl
attribute [simp] T_def turn_beq ite_B ite_I ite_ite_l set_mapI set_mapB set_mapT
attribute [-simp] List.map_set
class NthD (α:Type) where
  d:α
instance:NthD Int:=⟨0⟩
instance:NthD Bool:=⟨false⟩
instance:NthD (Int×Int):=⟨(0,0)⟩
instance {α:Type}:NthD (List α):=⟨[]⟩
def nth {α:Type} [NthD α] (l:List α) (i:Nat):α:=l.getD i NthD.d
theorem nth_eq {α:Type} [NthD α] {l:List α}{i:Nat}(h:i<l.length):l[i]?=some (nth l i):=by simp [nth,h]
theorem nth_get {α:Type} [NthD α] {l:List α}{i:Nat}(h:i<l.length):nth l i=l[i]:=by simp [nth,h]
theorem nmem_take_succ {α:Type}{l:List α}{x:α}{i:Nat}(h:x ∉ l.take i) (hi:i<l.length) (hx:l[i]≠x):x ∉ l.take (i+1):=by
  rw [List.take_succ_eq_append_getElem hi,List.mem_append,List.mem_singleton]
  exact fun hm=>hm.elim h fun h=>hx h.symm
theorem idxOf_take {α:Type} [BEq α] [LawfulBEq α] {l:List α}{x:α}{i:Nat}(h:x ∉ l.take i) (hi:i<l.length) (hx:l[i]=x):l.idxOf x=i:=by
  have h1:l=l.take i++l[i] :: l.drop (i+1):=by rw [←List.drop_eq_getElem_cons hi,List.take_append_drop]
  rw [h1,List.idxOf_append,if_neg h,hx,List.idxOf_cons_self];simp;omega
theorem nmem_of_take {α:Type}{l:List α}{x:α}{i:Nat}(h:x ∉ l.take i) (hi:l.length≤i):x ∉ l:=by rwa [List.take_of_length_le hi] at h
theorem in_ok (n lo hi:Int):ACalls Tryd.prog 54 [I n,I lo,I hi] [] (fun r o=>r=B (decide (lo≤n)&&decide (n≤hi))∧o=[]):=by
 have F:=Fx.nil
 refine ent Tryd.func54 Tryd.ntmps54 Tryd.results54 ?_
 refine rK [0,1,2] ?_
 refine W.seqR ?_
 refine oN 4 ?_
 refine gX ?_
 refine gX ?_
 refine gX ?_
 refine oN 2 ?_
 refine oK [6] ?_
 refine W.ret ?_
 exact er0 false [] []
def validT (x:Turn):Bool:=decide (0≤x.1)&&decide (x.1≤7)&&(decide (0≤x.2)&&decide (x.2≤6))
theorem valid_ok (a b:Int):ACalls Tryd.prog 41 [.agg [I a,I b]] [] (fun r o=>r=B (validT (a,b))∧o=[]):=by
 have F:=Fx.nil
 refine ent Tryd.func41 Tryd.ntmps41 Tryd.results41 ?_
 refine rK [1] ?_
 refine W.seqR ?_
 refine oN 2 ?_
 refine oC [] ?_
 refine ct (W6.in_ok _ _ _) ?_
 refine oN 1 ?_
 refine gX ?_
 refine gX ?_
 refine gXc ?_
 refine cx (fun hg=>by (try simp at hg);exact W6.in_ok _ _ _) ?_
 refine oN 2 ?_
 refine oK [2] ?_
 refine W.ret ?_
 refine er false [] [] ?_
 exact ⟨rfl,rfl⟩
theorem prod_ne' {l:List Turn}{a b:Int}{i:Nat}(h:i<l.length) (hc:l[i].1=a→¬l[i].2=b):l[i]≠(a,b):=fun he=>hc (by rw [he]) (by rw [he])
theorem prod_ne {l:List Turn}{a b:Int}{i:Nat}(h:i<l.length) (hc:a=l[i].1→¬b=l[i].2):l[i]≠(a,b):=fun he=>hc (by rw [he]) (by rw [he])
theorem Index_ok (l:List Turn) (a b:Int):ACalls Tryd.prog 55 [turns l,.agg [I a,I b]] [] (fun r o=>r=I (if (a,b)∈l then l.idxOf (a,b) else -1)∧o=[]):=by
 refine ACalls.len (l:=l.map T) (by simp) ⟨_,Tryd.func55,by kernel_rfl,by kernel_rfl⟩ fun hl=>?_
 simp [maxLen_val] at hl
 have F:=Fx.nil
 refine ent Tryd.func55 Tryd.ntmps55 Tryd.results55 ?_
 refine rK [0,3] ?_
 refine W.seqk fun K1 hK1=>?_
 refine rK [0,3,7,8] ?_
 refine W.block ?_
 refine lpa (α:=Nat) [0,3,7] [] [] (fun i=>[(8,I i)]) (fun i=>[]) (fun i=>i≤l.length∧(a,b) ∉ l.take i) (fun i=>l.length-i) 0 v0 ?_
 ·
  intro i hI0
  simp only [List.cons_append,List.nil_append]
  try dsimp only at hI0
  obtain ⟨hi,hm1⟩:=hI0
  replace F:=F.add hi
  refine rK [0,3,7,8,9] ?_
  refine W.seqk fun K2 hK2=>?_
  refine it (fun hc1=>?_) (fun hc1=>?_)
  ·
   try simp at hc1
   replace F:=F.add hc1
   refine W.skip ?_
   refine hK2 _ ?_
   clear hK2 K2
   refine W.seqk fun K3 hK3=>?_
   refine W.block ?_
   refine rK [0,3,5,7,8] ?_
   refine wD 5 [] [[],[],[],[2,1],[1,2,3],[3,2,1,4,0]] ?_
   refine dB [([12,13,14,15],[],[]),([11,13],[false],[]),([11,12],[false,false],[]),([11],[false,true,true],[]),([11],[false,true,true,true],[])] 0 5 ?_
   refine dD ?_
   refine oN 1 ?_
   refine oK [0,3,5,7,8,16] ?_
   refine it (fun hc2=>?_) (fun hc2=>?_)
   ·
    try simp at hc2
    replace F:=F.add hc2
    refine rK [4] ?_
    refine W.ret ?_
    refine br (tr (tr (br (tr ?_))))
    clear hK3 K3 hK1 K1
    refine er false [] [] ?_
    obtain ⟨rfl,rfl⟩:=hc2
    exact ⟨by rw [if_pos (List.getElem_mem _),idxOf_take hm1 hc1 rfl],rfl⟩
   ·
    try simp at hc2
    replace F:=F.add hc2
    refine W.skip ?_
    refine hK3 _ ?_
    clear hK3 K3
    refine rEw ?_
    refine ⟨i+1,lf0, ?_,v0⟩
    ·
     exact ⟨by omega,nmem_take_succ hm1 hc1 (prod_ne hc1 hc2)⟩
  ·
   try simp at hc1
   replace F:=F.add hc1
   refine W.exit ?_
   refine hK1 _ ?_
   clear hK2 K2 hK1 K1
   refine rK [4] ?_
   refine W.ret ?_
   refine er false [] [] ?_
   exact ⟨by rw [if_neg (nmem_of_take hm1 hc1)],rfl⟩
theorem Contains_ok (l:List Turn) (a b:Int):ACalls Tryd.prog 42 [turns l,.agg [I a,I b]] [] (fun r o=>r=B (decide ((a,b)∈l))∧o=[]):=by
 have F:=Fx.nil
 refine ent Tryd.func42 Tryd.ntmps42 Tryd.results42 ?_
 refine rK [0,3] ?_
 refine W.seqR ?_
 refine oN 2 ?_
 refine oC [] ?_
 refine ct (W6.Index_ok _ _ _) ?_
 refine oN 2 ?_
 refine oK [4] ?_
 refine W.ret ?_
 refine er false [] [] ?_
 refine ⟨?_,rfl⟩
 by_cases h:(a,b)∈l<;>simp [h]
theorem HasTurn_ok (l:List Turn) (a b:Int):ACalls Tryd.prog 22 [turns l,.agg [I a,I b]] [] (fun r o=>r=B (decide ((a,b)∈l))∧o=[]):=by
 refine ACalls.len (l:=l.map T) (by simp) ⟨_,Tryd.func22,by kernel_rfl,by kernel_rfl⟩ fun hl=>?_
 simp [maxLen_val] at hl
 have F:=Fx.nil
 refine ent Tryd.func22 Tryd.ntmps22 Tryd.results22 ?_
 refine rK [0,3] ?_
 refine W.seqk fun K1 hK1=>?_
 refine rK [0,3,5] ?_
 refine W.block ?_
 refine lpa (α:=Nat) [0,3] [8] [] (fun i=>[(5,I i)]) (fun i=>[]) (fun i=>i≤l.length∧(a,b) ∉ l.take i) (fun i=>l.length-i) 0 v0 ?_
 ·
  intro i hI0
  simp only [List.cons_append,List.nil_append]
  try dsimp only at hI0
  obtain ⟨hi,hm1⟩:=hI0
  replace F:=F.add hi
  refine W.seqk fun K2 hK2=>?_
  refine rK [0,3,5,9] ?_
  refine it (fun hc1=>?_) (fun hc1=>?_)
  ·
   try simp at hc1
   replace F:=F.add hc1
   refine W.skip ?_
   refine hK2 _ ?_
   clear hK2 K2
   refine W.seqk fun K3 hK3=>?_
   refine W.block ?_
   refine wD 5 [] [[],[],[1,0],[0,1,2],[],[4,2,1,0,3]] ?_
   refine dB [([13,16],[],[]),([12,16],[false],[]),([16],[true,true],[]),([16],[true,true,true],[]),([12,13,14,15],[false,false,false,false],[])] 0 5 ?_
   refine dD ?_
   refine oN 1 ?_
   refine oK [0,3,5,17] ?_
   refine it (fun hc2=>?_) (fun hc2=>?_)
   ·
    try simp at hc2
    replace F:=F.add hc2
    refine rK [4] ?_
    refine W.ret ?_
    refine br (tr (tr (br (tr ?_))))
    clear hK3 K3 hK1 K1
    refine er false [] [] ?_
    obtain ⟨rfl,rfl⟩:=hc2
    exact ⟨by rw [decide_eq_true (List.getElem_mem _)],rfl⟩
   ·
    try simp at hc2
    replace F:=F.add hc2
    refine W.skip ?_
    refine hK3 _ ?_
    clear hK3 K3
    refine rEw ?_
    refine ⟨i+1,lf0, ?_,v0⟩
    ·
     exact ⟨by omega,nmem_take_succ hm1 hc1 (prod_ne' hc1 hc2)⟩
  ·
   try simp at hc1
   replace F:=F.add hc1
   refine W.exit ?_
   refine hK1 _ ?_
   clear hK2 K2 hK1 K1
   refine rK [4] ?_
   refine W.ret ?_
   refine er false [] [] ?_
   exact ⟨by rw [decide_eq_false (nmem_of_take hm1 hc1)],rfl⟩
end Go.Sim.W6
