/- What a die makes: numbers, orders, turns, trades. -/
import Derived.Test.YtholkejjmookfaaDoorVb
namespace Go.Sim.W6
open Go.Proofs
set_option maxRecDepth 100000
set_option linter.unusedSimpArgs false
set_option linter.unusedVariables false
attribute [-simp] List.map_set
theorem wrap_u64 {n:Int}(h1:0≤n) (h2:n<18446744073709551616):IntKind.u64.wrap n=n:=by
  have e1:(2:Int) ^ IntKind.u64.bits=18446744073709551616:=by decide
  have e3:IntKind.u64.signed=false:=rfl
  simp only [IntKind.wrap,e1,e3,Bool.false_and,Bool.false_eq_true,if_false]
  omega
theorem rollV_range (f:Int):0≤rollV f∧rollV f<18446744073709551616:=by
  unfold rollV xsh
  rw [xorI_eq]
  exact u64_range _
theorem shr2_range {x:Int}(h:0≤x∧x<18446744073709551616):0≤shrI .u64 x 2∧shrI .u64 x 2<4611686018427387904:=by
  rw [shrI_eq]
  have:(2:Int) ^ min (2:Int).toNat IntKind.u64.bits=4:=by decide
  rw [this,Int.fdiv_eq_ediv_of_nonneg _ (by omega)]
  omega
noncomputable def castV (f n:Int):Int:=if n<2 then 0 else (shrI .u64 (rollV f) 2).tmod n
def castF (f n:Int):Int:=if n<2 then f else rollF f
theorem castV_lo (f n:Int):0≤castV f n:=by
  unfold castV;split
  · omega
  · exact Int.tmod_nonneg _ (shr2_range (rollV_range f)).1
theorem castV_hi (f n:Int) (h:1≤n):castV f n<n:=by
  unfold castV;split
  · omega
  · exact Int.tmod_lt_of_pos _ (by omega)
theorem Cast_ok (f n:Int) (hn:n<9223372036854775808):ACalls Tryd.prog 20 [.ptr 10000 0 0,I n] [(10000,die f)] (fun r o=>r=I (castV f n)∧o=[(10000,die (castF f n))]):=by
 have F:=Fx.nil
 refine ent Tryd.func20 Tryd.ntmps20 Tryd.results20 ?_
 refine rK [0,1] ?_
 refine W.seqk fun K1 hK1=>?_
 refine rK [0,1,6] ?_
 refine it (fun hc1=>?_) (fun hc1=>?_)
 ·
  try simp at hc1
  replace F:=F.add hc1
  refine rK [4] ?_
  refine W.ret ?_
  refine tr ?_
  clear hK1 K1
  refine er false [] [(10000,10000)] ?_
  exact ⟨by rw [castV,if_pos hc1],by rw [castF,if_pos hc1]⟩
 ·
  try simp at hc1
  replace F:=F.add hc1
  refine W.skip ?_
  refine hK1 _ ?_
  clear hK1 K1
  have hu:IntKind.u64.wrap n=n:=wrap_u64 (by omega) (by omega)
  have hn0:¬n=0:=by omega
  have hlo:0≤(shrI .u64 (rollV f) 2).tmod n:=Int.tmod_nonneg _ (shr2_range (rollV_range f)).1
  have hhi:(shrI .u64 (rollV f) 2).tmod n<n:=Int.tmod_lt_of_pos _ (by omega)
  replace F:=F.add hu |>.add hn0 |>.add hlo |>.add hhi
  refine W.seqR ?_
  refine oN 1 ?_
  refine oC [(10000,10000)] ?_
  refine ct (W6.roll_ok _) ?_
  refine oNw 6 ?_
  refine oK [4] ?_
  refine W.ret ?_
  refine er false [] [(10000,10000)] ?_
  exact ⟨by rw [castV,if_neg (by omega)],by rw [castF,if_neg (by omega)]⟩
theorem Once_ok (f n:Int) (hn:n<9223372036854775808):ACalls Tryd.prog 23 [.ptr 10000 0 0,I n] [(10000,die f)] (fun r o=>r=B (castV f n==0)∧o=[(10000,die (castF f n))]):=by
 have F:=Fx.nil
 refine ent Tryd.func23 Tryd.ntmps23 Tryd.results23 ?_
 refine rK [0,1] ?_
 refine W.seqR ?_
 refine oN 2 ?_
 refine oC [(10000,10000)] ?_
 refine ct (W6.Cast_ok _ _ (by omega)) ?_
 refine oN 2 ?_
 refine oK [4] ?_
 refine W.ret ?_
 exact er0 false [] [(10000,10000)]
noncomputable def oneV (f:Int) (l:List Int):Int:=if l.length=0 then 0 else nth l (castV f l.length).toNat
def oneF (f:Int) (l:List Int):Int:=if l.length=0 then f else castF f l.length
theorem oneV_mem (f:Int) (l:List Int) (h:l≠[]):oneV f l∈l:=by
  have h0:0<l.length:=List.length_pos_iff.2 h
  have h1:=castV_lo f l.length
  have h2:=castV_hi f l.length (by omega)
  rw [oneV,if_neg (by omega),nth_get (by omega)]
  exact List.getElem_mem _
theorem One_ok (f:Int) (l:List Int) (hl:l.length<9223372036854775808):ACalls Tryd.prog 19 [.ptr 10000 0 0,ints l] [(10000,die f)] (fun r o=>r=I (oneV f l)∧o=[(10000,die (oneF f l))]):=by
 have F:=Fx.nil
 refine ent Tryd.func19 Tryd.ntmps19 Tryd.results19 ?_
 refine rK [0,1] ?_
 refine W.seqk fun K1 hK1=>?_
 refine rK [0,1,7] ?_
 refine it (fun hc1=>?_) (fun hc1=>?_)
 ·
  try simp at hc1
  replace F:=F.add hc1
  refine rK [4] ?_
  refine W.ret ?_
  refine tr ?_
  clear hK1 K1
  refine er false [] [(10000,10000)] ?_
  exact ⟨by simp [oneV,hc1],by simp [oneF,hc1]⟩
 ·
  try simp at hc1
  replace F:=F.add hc1
  refine W.skip ?_
  refine hK1 _ ?_
  clear hK1 K1
  have h0:0<l.length:=List.length_pos_iff.2 hc1
  have hlo:=castV_lo f l.length
  have hhi:=castV_hi f l.length (by omega)
  have hix:(castV f l.length).toNat<l.length:=by omega
  replace F:=F.add h0 |>.add hlo |>.add hhi |>.add hix
  refine W.seqR ?_
  refine oN 4 ?_
  refine oC [(10000,10000)] ?_
  refine ct (W6.Cast_ok _ _ (by omega)) ?_
  refine oN 3 ?_
  refine oK [4] ?_
  refine W.ret ?_
  refine er false [] [(10000,10000)] ?_
  exact ⟨by rw [oneV,if_neg (by omega),nth_get hix],by rw [oneF,if_neg (by omega)]⟩
theorem TurnOf_ok (f a b:Int) (ha:a<9223372036854775808) (hb:b<9223372036854775808):ACalls Tryd.prog 21 [.ptr 10000 0 0,I a,I b] [(10000,die f)] (fun r o=>r = .agg [I (castV f a),I (castV (castF f a) b)]∧o=[(10000,die (castF (castF f a) b))]):=by
 have F:=Fx.nil
 refine ent Tryd.func21 Tryd.ntmps21 Tryd.results21 ?_
 refine rK [0,1,2,6] ?_
 refine W.seqR ?_
 refine oN 2 ?_
 refine oC [(10000,10000)] ?_
 refine ct (W6.Cast_ok _ _ (by omega)) ?_
 refine oN 2 ?_
 refine oC [(10000,10000)] ?_
 refine ct (W6.Cast_ok _ _ (by omega)) ?_
 refine oN 2 ?_
 refine oK [6] ?_
 refine W.ret ?_
 exact er0 false [] [(10000,10000)]
noncomputable def dieStep (f n:Int):Int:=rollF (mulI .u64 (xorI .u64 f (IntKind.u64.wrap n)) 11507291218515648293)
theorem DieOf_ok (l:List Int):ACalls Tryd.prog 6 [ints l] [] (fun r o=>r = .ptr 20000 0 0∧o=[(20000,die (l.foldl dieStep 2611923443488327891))]):=by
 refine ACalls.len (l:=l.map I) (by simp) ⟨_,Tryd.func6,by kernel_rfl,by kernel_rfl⟩ fun hl=>?_
 simp [maxLen_val] at hl
 have F:=Fx.nil
 refine ent Tryd.func6 Tryd.ntmps6 Tryd.results6 ?_
 refine rK [0] ?_
 refine rK [0,3] ?_
 refine W.seqk fun K1 hK1=>?_
 refine rK [0,3,4] ?_
 refine W.block ?_
 refine lpa (α:=Nat) [0,3] [9,28] [48] (fun i=>[(4,I i)]) (fun i=>[(48,die ((l.take i).foldl dieStep 2611923443488327891))]) (fun i=>i≤l.length) (fun i=>l.length-i) 0 v0 ?_
 ·
  intro i hI0
  simp only [List.cons_append,List.nil_append]
  try dsimp only at hI0
  replace F:=F.add hI0
  refine W.seqk fun K2 hK2=>?_
  refine rK [0,3,4,10] ?_
  refine it (fun hc1=>?_) (fun hc1=>?_)
  ·
   try simp at hc1
   replace F:=F.add hc1
   refine W.skip ?_
   refine hK2 _ ?_
   clear hK2 K2
   refine W.seqk fun K3 hK3=>?_
   refine W.block ?_
   refine wD 12 [] [[],[],[1],[1,2],[2,1,3],[],[],[6,5],[5,6,7],[7,6,5,8],[8,5,6,7,9,3,1,2,4],[4,2,1,3,9,7,6,5,8,10],[11,10,9,8,7,6,5,4,3,2,1,0],[0,1,2,3,4,5,6,7,8,9,10,11,12],[12,11,10,9,8,7,6,5,4,3,2,1,0,13]] ?_
   refine dB [([14,15,16,17,18,19,20,21,22,23,24],[],[]),([13,18,19,20,21,22],[false],[]),([13,18,19,20,21,22],[false,true],[]),([13,18,19,20,21,22],[false,true,true],[]),([13,18,19,20,21,22],[false,true,true,true],[]),([13,14,15,16,17,19],[false,false,false,false,false],[]),([13,14,15,16,17,18],[false,false,false,false,false,false],[]),([13,14,15,16,17],[false,false,false,false,false,true,true],[]),([13,14,15,16,17],[false,false,false,false,false,true,true,true],[]),([13,14,15,16,17],[false,false,false,false,false,true,true,true,true],[]),([13],[false,true,true,true,true,true,true,true,true,true],[]),([13],[false,true,true,true,true,true,true,true,true,true,true],[])] 0 12 ?_
   refine dD ?_
   refine oN 3 ?_
   refine oK [0,3,4] ?_
   refine W.region ?_
   refine oN 1 ?_
   refine oC [(10000,48)] ?_
   refine ct (roll_ok _) ?_
   refine WOps.endK ?_
   refine hK3 _ ?_
   clear hK3 K3
   refine rEw ?_
   refine ⟨i+1,lf ?_ ?_,v0,v0⟩
   ·
    exact v1
   ·
    try (simp [Fx.get F])
    all_goals (
     rw [List.take_succ_eq_append_getElem hc1,List.foldl_append];rfl
    )
  ·
   try simp at hc1
   replace F:=F.add hc1
   refine W.exit ?_
   refine hK1 _ ?_
   clear hK2 K2 hK1 K1
   refine rK [2] ?_
   refine W.ret ?_
   refine er false [] [(20000,48)] ?_
   exact ⟨rfl,by rw [List.take_of_length_le (by omega)]⟩
def Order (l:List Int) (n:Nat):Prop:=l.Perm ((List.range n).map Int.ofNat)
theorem Order.length {l:List Int}{n:Nat}(h:Order l n):l.length=n:=by have:=List.Perm.length_eq h;simpa using this
theorem Order.mem {l:List Int}{n:Nat}(h:Order l n){x:Int}(hx:x∈l):0≤x∧x<n:=by
  have:=(List.Perm.mem_iff h).1 hx
  simp only [List.mem_map,List.mem_range] at this
  obtain ⟨k,hk,rfl⟩:=this
  simp only [Int.ofNat_eq_natCast];omega
end Go.Sim.W6
