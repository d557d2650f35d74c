/- Numbers, lists of numbers, dice: what every chapter's statements use. -/
import Derived.Test.YtojjfnhjmfokhaaMd
namespace Go.Sim
set_option maxHeartbeats 4000000
open Go.Proofs
set_option maxRecDepth 100000
set_option linter.unusedSimpArgs false
set_option linter.unusedVariables false
theorem hm:Try.prog.follows .mixedOrders=true:=by kernel_rfl
abbrev ints (l:List Int):AV:=.imm (l.map I)
theorem ite_B (c:Prop) [Decidable c] (a b:Bool):(if c then B a else B b)=B (if c then a else b):=by split<;>rfl
theorem ite_I (c:Prop) [Decidable c] (a b:Int):(if c then I a else I b)=I (if c then a else b):=by split<;>rfl
theorem ite_ite_l {α:Type}(c:Prop) [Decidable c] (a b d:α):(if c then (if c then a else b) else d)=if c then a else d:=by split<;>rfl
theorem set_mapI (l:List Int) (i:Nat) (v:Int):(l.map I).set i (I v)=(l.set i v).map I:=List.map_set.symm
theorem set_mapB (l:List Bool) (i:Nat) (v:Bool):(l.map B).set i (B v)=(l.set i v).map B:=List.map_set.symm
attribute [simp] ite_B ite_I ite_ite_l set_mapI set_mapB
attribute [-simp] List.map_set
class NthD (α:Type) where
  d:α
instance:NthD Int:=⟨0⟩
instance:NthD Bool:=⟨false⟩
instance {α β:Type} [NthD α] [NthD β]:NthD (α×β):=⟨(NthD.d,NthD.d)⟩
instance {α:Type}:NthD (List α):=⟨[]⟩
def nth {α:Type} [NthD α] (l:List α) (i:Nat):α:=l.getD i NthD.d
theorem nth_eq {α:Type} [NthD α] {l:List α}{i:Nat}(h:i<l.length):l[i]?=some (nth l i):=by simp [nth,h]
theorem nth_get {α:Type} [NthD α] {l:List α}{i:Nat}(h:i<l.length):nth l i=l[i]:=by simp [nth,h]
theorem same_init (m n:Nat):((m:Int)==(n:Int))=decide (m=n):=by
  by_cases h:m=n<;>simp [h];omega
theorem take_step {α:Type}{a b:List α}{i:Nat}(h1:i<a.length) (h2:i<b.length) (h3:a.take i=b.take i):(a[i]=b[i])↔a.take (i+1)=b.take (i+1):=by
  have e1:=List.take_succ_eq_append_getElem h1
  have e2:=List.take_succ_eq_append_getElem h2
  rw [e1,e2,h3]
  exact ⟨fun h=>by rw [h],fun h=>by have:=List.append_cancel_left h;simpa using this⟩
theorem same_step {α:Type} [BEq α] [LawfulBEq α] [DecidableEq α] {a b:List α}{i:Nat}(h:(a.length=b.length∧a.take i=b.take i)∧i<b.length) (h1:i<a.length) (h2:i<b.length):(a[i]==b[i])=decide (a.take (i+1)=b.take (i+1)):=by
  rw [Bool.eq_iff_iff]
  simp [take_step h1 h2 h.1.2]
theorem same_end {α:Type} [DecidableEq α] {a b:List α}{i:Nat}(h:a.length=b.length→a.take i=b.take i→b.length≤i) (hi:i≤a.length):decide (a.length=b.length∧a.take i=b.take i)=decide (a=b):=by
  rw [decide_eq_decide]
  constructor
  · rintro ⟨h1,h2⟩
    have:=h h1 h2
    rwa [List.take_of_length_le (by omega),List.take_of_length_le (by omega)] at h2
  · rintro rfl;exact ⟨rfl,rfl⟩
theorem same_end' {α:Type} [DecidableEq α] {a b:List α}{i:Nat}(h:a.length=b.length→a.take i=b.take i→b.length≤i) (hi:i≤a.length):(decide (a.length=b.length)&&decide (a.take i=b.take i))=decide (a=b):=by
  rw [←Bool.decide_and];exact same_end h hi
theorem take_len_map {α β:Type}(f:α→β) (l:List α):(l.map f).take l.length=l.map f:=by rw [←List.map_take,List.take_length]
attribute [simp] take_len_map
theorem SameInts_ok (a b:List Int):ACalls Try.prog 21 [ints a,ints b] [] (fun r o=>r=B (decide (a=b))∧o=[]):=by
 refine ACalls.len (l:=a.map I) (by simp) ⟨_,Try.func21,by kernel_rfl,by kernel_rfl⟩ fun ha=>?_
 simp [maxLen_val] at ha
 have F:=Fx.nil
 refine ent Try.func21 Try.ntmps21 Try.results21 ?_
 refine rK [0,1] ?_
 refine rK [0,1,5] ?_
 refine W.seqk fun K1 hK1=>?_
 refine rK [0,1,5,6] ?_
 refine W.block ?_
 refine lp (α:=Nat) [0,1] [16] [] (fun i=>[(5,B (decide (a.length=b.length∧a.take i=b.take i))),(6,I i)]) (fun i=>[]) (fun i=>i≤a.length) (fun i=>a.length-i) 0 ?_ ?_ v0 ?_
 ·
  try (simp [Fx.get F])
  all_goals (
   exact same_init _ _
  )
 ·
  exact v1
 ·
  intro i hI0
  simp only [List.cons_append,List.nil_append]
  try dsimp only at hI0
  replace F:=F.add hI0
  refine W.seqk fun K2 hK2=>?_
  refine W.seqR ?_
  refine oN 2 ?_
  refine gX ?_
  refine gX ?_
  refine gX ?_
  refine gX ?_
  refine oN 1 ?_
  refine oK [0,1,5,6,18] ?_
  refine it (fun hc1=>?_) (fun hc1=>?_)
  ·
   try simp at hc1
   replace F:=F.add hc1
   refine W.skip ?_
   refine hK2 _ ?_
   clear hK2 K2
   refine W.seqk fun K3 hK3=>?_
   refine W.block ?_
   have hb:i<b.length:=by omega
   replace F:=F.add hb
   refine wDe 8 [] [[],[],[1,0],[0,1,2],[],[],[5,4],[4,5,6],[6,5,4,7,2,1,0,3],[3,0,1,2,7,4,5,6,8]] ?_
   refine dB [([22,25,26,27,28],[],[]),([21,25,26,27,28],[false],[]),([25,26,27,28],[true,true],[]),([25,26,27,28],[true,true,true],[]),([21,22,23,24,26],[false,false,false,false],[]),([21,22,23,24,25],[false,false,false,false,false],[]),([21,22,23,24],[false,false,false,false,true,true],[]),([21,22,23,24],[false,false,false,false,true,true,true],[])] 0 8 ?_
   refine dD ?_
   refine oN 2 ?_
   refine WOps.endK ?_
   refine hK3 _ ?_
   clear hK3 K3
   refine rEw ?_
   refine ⟨i+1,lf ?_ ?_,v0,v0⟩
   ·
    try (simp [Fx.get F])
    all_goals (
     first | exact same_step hc1 _ hb | exact take_step _ hb hc1.1.2
    )
   ·
    exact v1
  ·
   try simp at hc1
   replace F:=F.add hc1
   refine W.exit ?_
   refine hK1 _ ?_
   clear hK2 K2 hK1 K1
   refine rK [4] ?_
   refine W.ret ?_
   refine er false [] [] ?_
   exact ⟨by rw [same_end' hc1 hI0],rfl⟩
theorem CopyInts_ok (l:List Int) (hl:l.length≤1000000):ACalls Try.prog 79 [ints l] [] (fun r o=>r = .own 20000 0 l.length∧o=[(20000,.row true 3 1 (l.map I))]):=by
 have F:=Fx.nil
 refine ent Try.func79 Try.ntmps79 Try.results79 ?_
 refine rK [0] ?_
 refine rKw [2] ?_
 refine W.ret ?_
 exact er0 false [] [(20000,24)]
theorem CopyInts_imm (l:List Int) (hl:l.length≤1000000):ACalls Try.prog 79 [ints l] [] (fun r o=>r=ints l∧o=[]):=ACalls.frzs [20000] (CopyInts_ok l hl) (by simp;rfl) (by simp;rfl)
def bring (x n:Int):Int:=if n<2 then 0 else if x.tmod n<0 then x.tmod n+n else x.tmod n
theorem Bring_ok (x n:Int) (hn:n<9223372036854775808):ACalls Try.prog 62 [I x,I n] [] (fun r o=>r=I (bring x n)∧o=[]):=by
 have F:=Fx.nil
 refine ent Try.func62 Try.ntmps62 Try.results62 ?_
 refine rK [0,1] ?_
 refine W.seqk fun K1 hK1=>?_
 refine rK [0,1,6] ?_
 refine it (fun hc1=>?_) (fun hc1=>?_)
 ·
  try simp at hc1
  replace F:=F.add hc1
  refine rK [4] ?_
  refine W.ret ?_
  refine tr ?_
  clear hK1 K1
  refine er false [] [] ?_
  exact ⟨by rw [bring,if_pos hc1],rfl⟩
 ·
  try simp at hc1
  replace F:=F.add hc1
  refine W.skip ?_
  refine hK1 _ ?_
  clear hK1 K1
  have hn0:¬n=0:=by omega
  replace F:=F.add hn0
  refine rK [0,1] ?_
  refine W.seqk fun K2 hK2=>?_
  refine rK [0,1,11] ?_
  refine it (fun hc2=>?_) (fun hc2=>?_)
  ·
   try simp at hc2
   replace F:=F.add hc2
   have hb:=Int.lt_tmod_of_pos x (show 0<n by omega)
   replace F:=F.add hb
   refine rKw [4] ?_
   refine W.ret ?_
   refine tr ?_
   clear hK2 K2
   refine er false [] [] ?_
   exact ⟨by rw [bring,if_neg (by omega),if_pos hc2],rfl⟩
  ·
   try simp at hc2
   replace F:=F.add hc2
   refine W.skip ?_
   refine hK2 _ ?_
   clear hK2 K2
   refine rK [4] ?_
   refine W.ret ?_
   refine er false [] [] ?_
   exact ⟨by rw [bring,if_neg (by omega),if_neg (by omega)],rfl⟩
/-! dice -/
abbrev die (f:Int):Obj:=.row false 108 1 [.agg [.val (.int .u64 f)]]
def u64 (n:Int):Int:=IntKind.u64.wrap n
theorem u64_range (n:Int):0≤u64 n∧u64 n<18446744073709551616:=by
  have e1:(2:Int) ^ IntKind.u64.bits=18446744073709551616:=by decide
  have e3:IntKind.u64.signed=false:=rfl
  unfold u64
  simp only [IntKind.wrap,e1,e3,Bool.false_and,Bool.false_eq_true,if_false]
  omega
def rollF (f:Int):Int:=IntKind.u64.wrap (f+11562461410679940143)
noncomputable def xsh (x k:Int):Int:=xorI .u64 x (shrI .u64 x k)
noncomputable def rollV (f:Int):Int:=xsh (mulI .u64 (xsh (mulI .u64 (xsh (rollF f) 30) 13787848793156543929) 27) 10723151780598845931) 31
theorem roll_ok (f:Int):ACalls Try.prog 64 [.ptr 10000 0 0] [(10000,die f)] (fun r o=>r = .val (.int .u64 (rollV f))∧o=[(10000,die (rollF f))]):=by
 have F:=Fx.nil
 refine ent Try.func64 Try.ntmps64 Try.results64 ?_
 refine rK [0] ?_
 refine rK [0] ?_
 refine rK [3] ?_
 refine rK [3] ?_
 refine rK [3] ?_
 refine rK [2] ?_
 refine W.ret ?_
 refine er false [] [(10000,10000)] ?_
 exact ⟨rfl,rfl⟩
theorem wrap_u64 {n:Int}(h1:0≤n) (h2:n<18446744073709551616):IntKind.u64.wrap n=n:=by
  have e1:(2:Int) ^ IntKind.u64.bits=18446744073709551616:=by decide
  have e3:IntKind.u64.signed=false:=rfl
  simp only [IntKind.wrap,e1,e3,Bool.false_and,Bool.false_eq_true,if_false]
  omega
theorem rollV_range (f:Int):0≤rollV f∧rollV f<18446744073709551616:=by
  unfold rollV xsh
  rw [xorI_eq]
  exact u64_range _
theorem shr2_range {x:Int}(h:0≤x∧x<18446744073709551616):0≤shrI .u64 x 2∧shrI .u64 x 2<4611686018427387904:=by
  rw [shrI_eq]
  have:(2:Int) ^ min (2:Int).toNat IntKind.u64.bits=4:=by decide
  rw [this,Int.fdiv_eq_ediv_of_nonneg _ (by omega)]
  omega
noncomputable def castV (f n:Int):Int:=if n<2 then 0 else (shrI .u64 (rollV f) 2).tmod n
def castF (f n:Int):Int:=if n<2 then f else rollF f
theorem castV_lo (f n:Int):0≤castV f n:=by
  unfold castV;split
  · omega
  · exact Int.tmod_nonneg _ (shr2_range (rollV_range f)).1
theorem castV_hi (f n:Int) (h:1≤n):castV f n<n:=by
  unfold castV;split
  · omega
  · exact Int.tmod_lt_of_pos _ (by omega)
theorem castV_le (f n:Int) (h:1≤n):castV f n≤n-1:=by have:=castV_hi f n h;omega
theorem Cast_ok (f n:Int) (hn:n<9223372036854775808):ACalls Try.prog 25 [.ptr 10000 0 0,I n] [(10000,die f)] (fun r o=>r=I (castV f n)∧o=[(10000,die (castF f n))]):=by
 have F:=Fx.nil
 refine ent Try.func25 Try.ntmps25 Try.results25 ?_
 refine rK [0,1] ?_
 refine W.seqk fun K1 hK1=>?_
 refine rK [0,1,6] ?_
 refine it (fun hc1=>?_) (fun hc1=>?_)
 ·
  try simp at hc1
  replace F:=F.add hc1
  refine rK [4] ?_
  refine W.ret ?_
  refine tr ?_
  clear hK1 K1
  refine er false [] [(10000,10000)] ?_
  exact ⟨by rw [castV,if_pos hc1],by rw [castF,if_pos hc1]⟩
 ·
  try simp at hc1
  replace F:=F.add hc1
  refine W.skip ?_
  refine hK1 _ ?_
  clear hK1 K1
  have hu:IntKind.u64.wrap n=n:=wrap_u64 (by omega) (by omega)
  have hn0:¬n=0:=by omega
  have hlo:0≤(shrI .u64 (rollV f) 2).tmod n:=Int.tmod_nonneg _ (shr2_range (rollV_range f)).1
  have hhi:(shrI .u64 (rollV f) 2).tmod n<n:=Int.tmod_lt_of_pos _ (by omega)
  replace F:=F.add hu |>.add hn0 |>.add hlo |>.add hhi
  refine W.seqR ?_
  refine oN 1 ?_
  refine oC [(10000,10000)] ?_
  refine ct (roll_ok _) ?_
  refine oNw 6 ?_
  refine oK [4] ?_
  refine W.ret ?_
  refine er false [] [(10000,10000)] ?_
  exact ⟨by rw [castV,if_neg (by omega)],by rw [castF,if_neg (by omega)]⟩
theorem castV_hi' (f n:Int):castV f n<n∨castV f n=0:=by
  by_cases h:1≤n
  · exact .inl (castV_hi f n h)
  · exact .inr (by rw [castV,if_pos (by omega)])
noncomputable def fromV (f lo hi:Int):Int:=lo+castV f (hi-lo+1)
def fromF (f lo hi:Int):Int:=castF f (hi-lo+1)
theorem fromV_range (f:Int){lo hi:Int}(h:lo≤hi):lo≤fromV f lo hi∧fromV f lo hi≤hi:=by
  have h1:=castV_lo f (hi-lo+1)
  have h2:=castV_hi f (hi-lo+1) (by omega)
  unfold fromV;omega
theorem From_ok (f lo hi:Int) (h1 : -1000000000000≤lo) (h2:lo≤1000000000000) (h3 : -1000000000000≤hi) (h4:hi≤1000000000000):ACalls Try.prog 59 [.ptr 10000 0 0,I lo,I hi] [(10000,die f)] (fun r o=>r=I (fromV f lo hi)∧o=[(10000,die (fromF f lo hi))]):=by
 have F:=Fx.nil
 refine ent Try.func59 Try.ntmps59 Try.results59 ?_
 have hlo:=castV_lo f (hi-lo+1)
 have hhi:=castV_hi' f (hi-lo+1)
 replace F:=F.add hlo |>.add hhi
 refine rK [0,1,2] ?_
 refine W.seqR ?_
 refine oNw 6 ?_
 refine oC [(10000,10000)] ?_
 refine ct (Cast_ok f (hi-lo+1) (by omega)) ?_
 refine oNw 2 ?_
 refine oK [6] ?_
 refine W.ret ?_
 refine er false [] [(10000,10000)] ?_
 exact ⟨rfl,rfl⟩
theorem Once_ok (f n:Int) (hn:n<9223372036854775808):ACalls Try.prog 61 [.ptr 10000 0 0,I n] [(10000,die f)] (fun r o=>r=B (castV f n==0)∧o=[(10000,die (castF f n))]):=by
 have F:=Fx.nil
 refine ent Try.func61 Try.ntmps61 Try.results61 ?_
 refine rK [0,1] ?_
 refine W.seqR ?_
 refine oN 2 ?_
 refine oC [(10000,10000)] ?_
 refine ct (Cast_ok _ _ (by omega)) ?_
 refine oN 2 ?_
 refine oK [4] ?_
 refine W.ret ?_
 exact er0 false [] [(10000,10000)]
noncomputable def oneV (f:Int) (l:List Int):Int:=if l.length=0 then 0 else nth l (castV f l.length).toNat
def oneF (f:Int) (l:List Int):Int:=if l.length=0 then f else castF f l.length
theorem oneV_mem (f:Int) (l:List Int) (h:l≠[]):oneV f l∈l:=by
  have h0:0<l.length:=List.length_pos_iff.2 h
  have h1:=castV_lo f l.length
  have h2:=castV_hi f l.length (by omega)
  rw [oneV,if_neg (by omega),nth_get (by omega)]
  exact List.getElem_mem _
theorem One_ok (f:Int) (l:List Int) (hl:l.length<9223372036854775808):ACalls Try.prog 60 [.ptr 10000 0 0,ints l] [(10000,die f)] (fun r o=>r=I (oneV f l)∧o=[(10000,die (oneF f l))]):=by
 have F:=Fx.nil
 refine ent Try.func60 Try.ntmps60 Try.results60 ?_
 refine rK [0,1] ?_
 refine W.seqk fun K1 hK1=>?_
 refine rK [0,1,7] ?_
 refine it (fun hc1=>?_) (fun hc1=>?_)
 ·
  try simp at hc1
  replace F:=F.add hc1
  refine rK [4] ?_
  refine W.ret ?_
  refine tr ?_
  clear hK1 K1
  refine er false [] [(10000,10000)] ?_
  exact ⟨by simp [oneV,hc1],by simp [oneF,hc1]⟩
 ·
  try simp at hc1
  replace F:=F.add hc1
  refine W.skip ?_
  refine hK1 _ ?_
  clear hK1 K1
  have h0:0<l.length:=List.length_pos_iff.2 hc1
  have hlo:=castV_lo f l.length
  have hhi:=castV_hi f l.length (by omega)
  have hix:(castV f l.length).toNat<l.length:=by omega
  replace F:=F.add h0 |>.add hlo |>.add hhi |>.add hix
  refine W.seqR ?_
  refine oN 4 ?_
  refine oC [(10000,10000)] ?_
  refine ct (Cast_ok _ _ (by omega)) ?_
  refine oN 3 ?_
  refine oK [4] ?_
  refine W.ret ?_
  refine er false [] [(10000,10000)] ?_
  exact ⟨by rw [oneV,if_neg (by omega),nth_get hix],by rw [oneF,if_neg (by omega)]⟩
noncomputable def dieStep (f n:Int):Int:=rollF (mulI .u64 (xorI .u64 f (IntKind.u64.wrap n)) 11507291218515648293)
theorem DieOf_ok (l:List Int):ACalls Try.prog 17 [ints l] [] (fun r o=>r = .ptr 20000 0 0∧o=[(20000,die (l.foldl dieStep 2611923443488327891))]):=by
 refine ACalls.len (l:=l.map I) (by simp) ⟨_,Try.func17,by kernel_rfl,by kernel_rfl⟩ fun hl=>?_
 simp [maxLen_val] at hl
 have F:=Fx.nil
 refine ent Try.func17 Try.ntmps17 Try.results17 ?_
 refine rK [0] ?_
 refine rK [0,3] ?_
 refine W.seqk fun K1 hK1=>?_
 refine rK [0,3,4] ?_
 refine W.block ?_
 refine lpa (α:=Nat) [0,3] [9,28] [48] (fun i=>[(4,I i)]) (fun i=>[(48,die ((l.take i).foldl dieStep 2611923443488327891))]) (fun i=>i≤l.length) (fun i=>l.length-i) 0 v0 ?_
 ·
  intro i hI0
  simp only [List.cons_append,List.nil_append]
  try dsimp only at hI0
  replace F:=F.add hI0
  refine W.seqk fun K2 hK2=>?_
  refine rK [0,3,4,10] ?_
  refine it (fun hc1=>?_) (fun hc1=>?_)
  ·
   try simp at hc1
   replace F:=F.add hc1
   refine W.skip ?_
   refine hK2 _ ?_
   clear hK2 K2
   refine W.seqk fun K3 hK3=>?_
   refine W.block ?_
   refine wD 12 [] [[],[],[1],[1,2],[2,1,3],[],[],[6,5],[5,6,7],[7,6,5,8],[8,5,6,7,9,3,1,2,4],[4,2,1,3,9,7,6,5,8,10],[11,10,9,8,7,6,5,4,3,2,1,0],[0,1,2,3,4,5,6,7,8,9,10,11,12],[12,11,10,9,8,7,6,5,4,3,2,1,0,13]] ?_
   refine dB [([14,15,16,17,18,19,20,21,22,23,24],[],[]),([13,18,19,20,21,22],[false],[]),([13,18,19,20,21,22],[false,true],[]),([13,18,19,20,21,22],[false,true,true],[]),([13,18,19,20,21,22],[false,true,true,true],[]),([13,14,15,16,17,19],[false,false,false,false,false],[]),([13,14,15,16,17,18],[false,false,false,false,false,false],[]),([13,14,15,16,17],[false,false,false,false,false,true,true],[]),([13,14,15,16,17],[false,false,false,false,false,true,true,true],[]),([13,14,15,16,17],[false,false,false,false,false,true,true,true,true],[]),([13],[false,true,true,true,true,true,true,true,true,true],[]),([13],[false,true,true,true,true,true,true,true,true,true,true],[])] 0 12 ?_
   refine dD ?_
   refine oN 3 ?_
   refine oK [0,3,4] ?_
   refine W.region ?_
   refine oN 1 ?_
   refine oC [(10000,48)] ?_
   refine ct (roll_ok _) ?_
   refine WOps.endK ?_
   refine hK3 _ ?_
   clear hK3 K3
   refine rEw ?_
   refine ⟨i+1,lf ?_ ?_,v0,v0⟩
   ·
    exact v1
   ·
    try (simp [Fx.get F])
    all_goals (
     rw [List.take_succ_eq_append_getElem hc1,List.foldl_append];rfl
    )
  ·
   try simp at hc1
   replace F:=F.add hc1
   refine W.exit ?_
   refine hK1 _ ?_
   clear hK2 K2 hK1 K1
   refine rK [2] ?_
   refine W.ret ?_
   refine er false [] [(20000,48)] ?_
   exact ⟨rfl,by rw [List.take_of_length_le (by omega)]⟩
def Order (l:List Int) (n:Nat):Prop:=l.Perm ((List.range n).map Int.ofNat)
theorem Order.length {l:List Int}{n:Nat}(h:Order l n):l.length=n:=by have:=List.Perm.length_eq h;simpa using this
end Go.Sim
