/- Numbers, lists of numbers, dice: what every chapter's statements use. -/
import Derived.Test.YtadlbdekaehipaaDoorMd
namespace Go.Sim
set_option maxHeartbeats 4000000
open Go.Proofs
set_option maxRecDepth 100000
set_option linter.unusedSimpArgs false
set_option linter.unusedVariables false
theorem hm:Tryd.prog.follows .mixedOrders=true:=by kernel_rfl
abbrev ints (l:List Int):AV:=.imm (l.map I)
theorem ite_B (c:Prop) [Decidable c] (a b:Bool):(if c then B a else B b)=B (if c then a else b):=by split<;>rfl
theorem ite_I (c:Prop) [Decidable c] (a b:Int):(if c then I a else I b)=I (if c then a else b):=by split<;>rfl
theorem ite_ite_l {α:Type}(c:Prop) [Decidable c] (a b d:α):(if c then (if c then a else b) else d)=if c then a else d:=by split<;>rfl
theorem set_mapI (l:List Int) (i:Nat) (v:Int):(l.map I).set i (I v)=(l.set i v).map I:=List.map_set.symm
theorem set_mapB (l:List Bool) (i:Nat) (v:Bool):(l.map B).set i (B v)=(l.set i v).map B:=List.map_set.symm
attribute [simp] ite_B ite_I ite_ite_l set_mapI set_mapB
attribute [-simp] List.map_set
class NthD (α:Type) where
  d:α
instance:NthD Int:=⟨0⟩
instance:NthD Bool:=⟨false⟩
instance {α β:Type} [NthD α] [NthD β]:NthD (α×β):=⟨(NthD.d,NthD.d)⟩
instance {α:Type}:NthD (List α):=⟨[]⟩
def nth {α:Type} [NthD α] (l:List α) (i:Nat):α:=l.getD i NthD.d
theorem nth_eq {α:Type} [NthD α] {l:List α}{i:Nat}(h:i<l.length):l[i]?=some (nth l i):=by simp [nth,h]
theorem nth_get {α:Type} [NthD α] {l:List α}{i:Nat}(h:i<l.length):nth l i=l[i]:=by simp [nth,h]
theorem nmem_take_succ {α:Type}{l:List α}{x:α}{i:Nat}(h:x ∉ l.take i) (hi:i<l.length) (hx:l[i]≠x):x ∉ l.take (i+1):=by
  rw [List.take_succ_eq_append_getElem hi,List.mem_append,List.mem_singleton]
  exact fun hm=>hm.elim h fun h=>hx h.symm
theorem idxOf_take {α:Type} [BEq α] [LawfulBEq α] {l:List α}{x:α}{i:Nat}(h:x ∉ l.take i) (hi:i<l.length) (hx:l[i]=x):l.idxOf x=i:=by
  have h1:l=l.take i++l[i] :: l.drop (i+1):=by rw [←List.drop_eq_getElem_cons hi,List.take_append_drop]
  rw [h1,List.idxOf_append,if_neg h,hx,List.idxOf_cons_self];simp;omega
theorem nmem_of_take {α:Type}{l:List α}{x:α}{i:Nat}(h:x ∉ l.take i) (hi:l.length≤i):x ∉ l:=by rwa [List.take_of_length_le hi] at h
theorem same_init (m n:Nat):((m:Int)==(n:Int))=decide (m=n):=by
  by_cases h:m=n<;>simp [h];omega
theorem take_step {α:Type}{a b:List α}{i:Nat}(h1:i<a.length) (h2:i<b.length) (h3:a.take i=b.take i):(a[i]=b[i])↔a.take (i+1)=b.take (i+1):=by
  have e1:=List.take_succ_eq_append_getElem h1
  have e2:=List.take_succ_eq_append_getElem h2
  rw [e1,e2,h3]
  exact ⟨fun h=>by rw [h],fun h=>by have:=List.append_cancel_left h;simpa using this⟩
theorem same_step {α:Type} [BEq α] [LawfulBEq α] [DecidableEq α] {a b:List α}{i:Nat}(h:(a.length=b.length∧a.take i=b.take i)∧i<b.length) (h1:i<a.length) (h2:i<b.length):(a[i]==b[i])=decide (a.take (i+1)=b.take (i+1)):=by
  rw [Bool.eq_iff_iff]
  simp [take_step h1 h2 h.1.2]
theorem same_end {α:Type} [DecidableEq α] {a b:List α}{i:Nat}(h:a.length=b.length→a.take i=b.take i→b.length≤i) (hi:i≤a.length):decide (a.length=b.length∧a.take i=b.take i)=decide (a=b):=by
  rw [decide_eq_decide]
  constructor
  · rintro ⟨h1,h2⟩
    have:=h h1 h2
    rwa [List.take_of_length_le (by omega),List.take_of_length_le (by omega)] at h2
  · rintro rfl;exact ⟨rfl,rfl⟩
theorem same_end' {α:Type} [DecidableEq α] {a b:List α}{i:Nat}(h:a.length=b.length→a.take i=b.take i→b.length≤i) (hi:i≤a.length):(decide (a.length=b.length)&&decide (a.take i=b.take i))=decide (a=b):=by
  rw [←Bool.decide_and];exact same_end h hi
theorem take_len_map {α β:Type}(f:α→β) (l:List α):(l.map f).take l.length=l.map f:=by rw [←List.map_take,List.take_length]
attribute [simp] take_len_map
theorem IndexI_ok (l:List Int) (a:Int):ACalls Tryd.prog 26 [ints l,I a] [] (fun r o=>r=I (if a∈l then l.idxOf a else -1)∧o=[]):=by
 refine ACalls.len (l:=l.map I) (by simp) ⟨_,Tryd.func26,by kernel_rfl,by kernel_rfl⟩ fun hl=>?_
 simp [maxLen_val] at hl
 have F:=Fx.nil
 refine ent Tryd.func26 Tryd.ntmps26 Tryd.results26 ?_
 refine rK [0,1] ?_
 refine W.seqk fun K1 hK1=>?_
 refine rK [0,1,7,8] ?_
 refine W.block ?_
 refine lpa (α:=Nat) [0,1,7] [] [] (fun i=>[(8,I i)]) (fun i=>[]) (fun i=>i≤l.length∧a ∉ l.take i) (fun i=>l.length-i) 0 v0 ?_
 ·
  intro i hI0
  simp only [List.cons_append,List.nil_append]
  try dsimp only at hI0
  obtain ⟨hi,hm1⟩:=hI0
  replace F:=F.add hi
  refine rK [0,1,7,8,9] ?_
  refine W.seqk fun K2 hK2=>?_
  refine it (fun hc1=>?_) (fun hc1=>?_)
  ·
   try simp at hc1
   replace F:=F.add hc1
   refine W.skip ?_
   refine hK2 _ ?_
   clear hK2 K2
   refine W.seqk fun K3 hK3=>?_
   refine W.block ?_
   refine rK [0,1,5,7,8] ?_
   refine rK [0,1,5,7,8,16] ?_
   refine it (fun hc2=>?_) (fun hc2=>?_)
   ·
    try simp at hc2
    replace F:=F.add hc2
    refine rK [4] ?_
    refine W.ret ?_
    refine br (tr (tr (br (tr ?_))))
    clear hK3 K3 hK1 K1
    refine er false [] [] ?_
    subst hc2
    exact ⟨by rw [if_pos (List.getElem_mem _),idxOf_take hm1 hc1 rfl],rfl⟩
   ·
    try simp at hc2
    replace F:=F.add hc2
    refine W.skip ?_
    refine hK3 _ ?_
    clear hK3 K3
    refine rEw ?_
    refine ⟨i+1,lf0, ?_,v0⟩
    ·
     exact ⟨by omega,nmem_take_succ hm1 hc1 (fun h=>hc2 h.symm)⟩
  ·
   try simp at hc1
   replace F:=F.add hc1
   refine W.exit ?_
   refine hK1 _ ?_
   clear hK2 K2 hK1 K1
   refine rK [4] ?_
   refine W.ret ?_
   refine er false [] [] ?_
   exact ⟨by rw [if_neg (nmem_of_take hm1 hc1)],rfl⟩
theorem ContainsI_ok (l:List Int) (a:Int):ACalls Tryd.prog 25 [ints l,I a] [] (fun r o=>r=B (decide (a∈l))∧o=[]):=by
 have F:=Fx.nil
 refine ent Tryd.func25 Tryd.ntmps25 Tryd.results25 ?_
 refine rK [0,1] ?_
 refine W.seqR ?_
 refine oN 2 ?_
 refine oC [] ?_
 refine ct (IndexI_ok _ _) ?_
 refine oN 2 ?_
 refine oK [4] ?_
 refine W.ret ?_
 refine er false [] [] ?_
 refine ⟨?_,rfl⟩
 by_cases h:a∈l<;>simp [h]
theorem SameInts_ok (a b:List Int):ACalls Tryd.prog 8 [ints a,ints b] [] (fun r o=>r=B (decide (a=b))∧o=[]):=by
 refine ACalls.len (l:=a.map I) (by simp) ⟨_,Tryd.func8,by kernel_rfl,by kernel_rfl⟩ fun ha=>?_
 simp [maxLen_val] at ha
 have F:=Fx.nil
 refine ent Tryd.func8 Tryd.ntmps8 Tryd.results8 ?_
 refine rK [0,1] ?_
 refine rK [0,1,5] ?_
 refine W.seqk fun K1 hK1=>?_
 refine rK [0,1,5,6] ?_
 refine W.block ?_
 refine lp (α:=Nat) [0,1] [16] [] (fun i=>[(5,B (decide (a.length=b.length∧a.take i=b.take i))),(6,I i)]) (fun i=>[]) (fun i=>i≤a.length) (fun i=>a.length-i) 0 ?_ ?_ v0 ?_
 ·
  try (simp [Fx.get F])
  all_goals (
   exact same_init _ _
  )
 ·
  exact v1
 ·
  intro i hI0
  simp only [List.cons_append,List.nil_append]
  try dsimp only at hI0
  replace F:=F.add hI0
  refine W.seqk fun K2 hK2=>?_
  refine W.seqR ?_
  refine oN 2 ?_
  refine gX ?_
  refine gX ?_
  refine gX ?_
  refine gX ?_
  refine oN 1 ?_
  refine oK [0,1,5,6,18] ?_
  refine it (fun hc1=>?_) (fun hc1=>?_)
  ·
   try simp at hc1
   replace F:=F.add hc1
   refine W.skip ?_
   refine hK2 _ ?_
   clear hK2 K2
   refine W.seqk fun K3 hK3=>?_
   refine W.block ?_
   have hb:i<b.length:=by omega
   replace F:=F.add hb
   refine wDe 8 [] [[],[],[1,0],[0,1,2],[],[],[5,4],[4,5,6],[6,5,4,7,2,1,0,3],[3,0,1,2,7,4,5,6,8]] ?_
   refine dB [([22,25,26,27,28],[],[]),([21,25,26,27,28],[false],[]),([25,26,27,28],[true,true],[]),([25,26,27,28],[true,true,true],[]),([21,22,23,24,26],[false,false,false,false],[]),([21,22,23,24,25],[false,false,false,false,false],[]),([21,22,23,24],[false,false,false,false,true,true],[]),([21,22,23,24],[false,false,false,false,true,true,true],[])] 0 8 ?_
   refine dD ?_
   refine oN 2 ?_
   refine WOps.endK ?_
   refine hK3 _ ?_
   clear hK3 K3
   refine rEw ?_
   refine ⟨i+1,lf ?_ ?_,v0,v0⟩
   ·
    try (simp [Fx.get F])
    all_goals (
     first | exact same_step hc1 _ hb | exact take_step _ hb hc1.1.2
    )
   ·
    exact v1
  ·
   try simp at hc1
   replace F:=F.add hc1
   refine W.exit ?_
   refine hK1 _ ?_
   clear hK2 K2 hK1 K1
   refine rK [4] ?_
   refine W.ret ?_
   refine er false [] [] ?_
   exact ⟨by rw [same_end' hc1 hI0],rfl⟩
def u64 (n:Int):Int:=IntKind.u64.wrap n
def rollF (f:Int):Int:=IntKind.u64.wrap (f+11562461410679940143)
noncomputable def xsh (x k:Int):Int:=xorI .u64 x (shrI .u64 x k)
noncomputable def rollV (f:Int):Int:=xsh (mulI .u64 (xsh (mulI .u64 (xsh (rollF f) 30) 13787848793156543929) 27) 10723151780598845931) 31
theorem wrap_u64 {n:Int}(h1:0≤n) (h2:n<18446744073709551616):IntKind.u64.wrap n=n:=by
  have e1:(2:Int) ^ IntKind.u64.bits=18446744073709551616:=by decide
  have e3:IntKind.u64.signed=false:=rfl
  simp only [IntKind.wrap,e1,e3,Bool.false_and,Bool.false_eq_true,if_false]
  omega
noncomputable def castV (f n:Int):Int:=if n<2 then 0 else (shrI .u64 (rollV f) 2).tmod n
noncomputable def oneV (f:Int) (l:List Int):Int:=if l.length=0 then 0 else nth l (castV f l.length).toNat
def Order (l:List Int) (n:Nat):Prop:=l.Perm ((List.range n).map Int.ofNat)
theorem Order.length {l:List Int}{n:Nat}(h:Order l n):l.length=n:=by have:=List.Perm.length_eq h;simpa using this
theorem Order.nodup {l:List Int}{n:Nat}(h:Order l n):l.Nodup:=by
  refine (List.Perm.nodup_iff h).2 ?_
  refine List.Pairwise.map _ (fun a b hab=>?_) (List.nodup_range (n:=n))
  simp only [Int.ofNat_eq_natCast,ne_eq,Int.natCast_inj];exact hab
end Go.Sim
