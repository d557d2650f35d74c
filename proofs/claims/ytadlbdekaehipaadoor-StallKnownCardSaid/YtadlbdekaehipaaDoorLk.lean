/- How a list begins: one number, repeated. -/
import Derived.Test.YtadlbdekaehipaaDoorLh
namespace Go.Sim
set_option maxHeartbeats 4000000
open Go.Proofs
set_option maxRecDepth 100000
set_option linter.unusedSimpArgs false
set_option linter.unusedVariables false
attribute [-simp] List.map_set List.map_take List.map_drop setSeg AV.flat1
theorem flat1_val (v:Value):(AV.val v).flat1=true:=rfl
attribute [local simp] setSeg_nil' flat1_val
theorem and_low {x:Int}(h1:0≤x) (h2:x<4294967296):andI .u64 x 4294967295=x:=by
  obtain ⟨n,rfl⟩:=Int.eq_ofNat_of_zero_le h1
  rw [andI_eq]
  have h3:(BitVec.ofInt IntKind.u64.bits (n:Int) &&& BitVec.ofInt IntKind.u64.bits 4294967295).toNat=n:=by
    rw [BitVec.toNat_and]
    have e1:(BitVec.ofInt IntKind.u64.bits (n:Int)).toNat=n:=by
      rw [BitVec.toNat_ofInt]
      have:(2:Nat) ^ IntKind.u64.bits=18446744073709551616:=by decide
      rw [this];omega
    have e2:(BitVec.ofInt IntKind.u64.bits 4294967295).toNat=2 ^ 32-1:=by decide
    rw [e1,e2,Nat.and_two_pow_sub_one_eq_mod];omega
  rw [h3]
  exact wrap_u64 (by omega) (by omega)
theorem shr_low {x:Int}(h1:0≤x) (h2:x<4294967296):shrI .u64 x 32=0:=by
  rw [shrI_eq]
  have:(2:Int) ^ min (32:Int).toNat IntKind.u64.bits=4294967296:=by decide
  rw [this,Int.fdiv_eq_ediv_of_nonneg _ (by omega)]
  omega
theorem mul_low {x y:Int}(h1:0≤x * y) (h2:x * y<18446744073709551616):mulI .u64 x y=x * y:=by rw [mulI_eq];exact wrap_u64 h1 h2
theorem Mul64_ok (n:Int) (h0:0≤n) (hn:n≤1000):ACalls Tryd.prog 45 [.val (.int .u64 1),.val (.int .u64 n)] [] (fun r o=>r = .tup [.val (.int .u64 0),.val (.int .u64 n)]∧o=[]):=by
 have F:=Fx.nil
 refine ent Tryd.func45 Tryd.ntmps45 Tryd.results45 ?_
 have e1:andI .u64 1 4294967295=1:=and_low (by omega) (by omega)
 have e2:andI .u64 n 4294967295=n:=and_low (by omega) (by omega)
 have e3:shrI .u64 1 32=0:=shr_low (by omega) (by omega)
 have e4:shrI .u64 n 32=0:=shr_low (by omega) (by omega)
 have e5:mulI .u64 1 n=n:=by have:=mul_low (x:=1) (y:=n) (by omega) (by omega);rw [this];omega
 have e6:mulI .u64 0 n=0:=by have:=mul_low (x:=0) (y:=n) (by omega) (by omega);rw [this];omega
 have e7:mulI .u64 1 0=0:=mul_low (x:=1) (y:=0) (by omega) (by omega)
 have e8:mulI .u64 0 0=0:=mul_low (x:=0) (y:=0) (by omega) (by omega)
 have e9:andI .u64 0 4294967295=0:=and_low (by omega) (by omega)
 have e10:shrI .u64 0 32=0:=shr_low (by omega) (by omega)
 have e11:IntKind.u64.wrap 0=0:=wrap_u64 (by omega) (by omega)
 refine rK [0,1] ?_
 refine rK [0,1,6] ?_
 refine rK [0,1,6,7] ?_
 refine rK [0,1,6,7,8] ?_
 refine rK [0,1,6,7,8,9] ?_
 refine rK [0,1,6,7,8,9,10] ?_
 refine rK [0,1,6,7,9,11] ?_
 refine rK [0,1,6,7,9,11,12] ?_
 refine rK [0,1,6,7,9,12,13] ?_
 refine rK [0,1,7,9,12,13] ?_
 refine rK [0,1,4] ?_
 refine rK [4,5] ?_
 refine W.ret ?_
 exact er0 false [] []
theorem Mul_ok (n:Int) (h0:0≤n) (hn:n≤1000):ACalls Tryd.prog 36 [.val (.int .u64 1),.val (.int .u64 n)] [] (fun r o=>r = .tup [.val (.int .u64 0),.val (.int .u64 n)]∧o=[]):=by
 have F:=Fx.nil
 refine ent Tryd.func36 Tryd.ntmps36 Tryd.results36 ?_
 refine rK [0,1] ?_
 refine W.seqk fun K1 hK1=>?_
 refine cF ?_
 refine W.skip ?_
 refine hK1 _ ?_
 clear hK1 K1
 refine W.seqR ?_
 refine oN 2 ?_
 refine oC [] ?_
 refine ct (Mul64_ok _ (by omega) (by omega)) ?_
 refine oN 5 ?_
 refine oK [8,9] ?_
 refine rK [4,5] ?_
 refine W.ret ?_
 exact er0 false [] []
def repC (k n:Nat):List AV:=(List.replicate k (-1:Int)++List.replicate (n-k) 0).map I
theorem repC_len {k n:Nat}(h:k≤n):(repC k n).length=n:=by simp [repC];omega
theorem repC_take {k n:Nat}(h:k≤n):(repC k n).take k=(List.replicate k (-1:Int)).map I:=by
  rw [repC,←List.map_take,List.take_left' (by simp)]
theorem repC_one {n:Nat}(h:0<n):setSeg (List.replicate n (I 0)) 0 [I (-1)]=repC 1 n:=by
  obtain ⟨m,rfl⟩:∃m,n=m+1:=⟨n-1,by omega⟩
  simp [setSeg,repC,List.replicate_succ]
theorem repC_step {k n m:Nat}(h:k+m≤n):setSeg (repC k n) k ((List.replicate m (-1:Int)).map I)=repC (k+m) n:=by
  rw [setSeg,repC_take (by omega),List.length_map,List.length_replicate,repC,repC,←List.map_drop,←List.map_append,←List.map_append]
  congr 1
  rw [List.drop_append,List.drop_of_length_le (by simp),List.nil_append,List.length_replicate,List.drop_replicate,←List.append_assoc,List.replicate_append_replicate]
  congr 2;omega
theorem repC_all (n:Nat):repC n n=(List.replicate n (-1:Int)).map I:=by simp [repC]
theorem repC_flat (k n:Nat):((repC k n).all fun z=>z.flat1)=true:=by
  rw [List.all_eq_true]
  intro x hx
  obtain ⟨v,_,rfl⟩:=List.mem_map.1 hx
  rfl
attribute [local simp] repC_flat
theorem Repeat_ok (n:Nat) (h0:0<n) (hn:n≤8):ACalls Tryd.prog 23 [ints [-1],I n] [] (fun r o=>r = .own 20000 0 n∧o=[(20000,.row true 3 1 ((List.replicate n (-1)).map I))]):=by
 have F:=Fx.nil
 replace F:=F.add h0 |>.add hn
 refine ent Tryd.func23 Tryd.ntmps23 Tryd.results23 ?_
 have hu1:IntKind.u64.wrap (n:Int)=n:=wrap_u64 (by omega) (by omega)
 have hu2:IntKind.u64.wrap 1=1:=wrap_u64 (by omega) (by omega)
 have htk:List.take n [I (-1)]=[I (-1)]:=List.take_of_length_le (by simp;omega)
 have hone:=repC_one h0
 have hmx:(n:Int)≤16777216:=by omega
 have hnn:¬(n:Int)<0:=by omega
 have hmy:(n:Int)≤9223372036854775807:=by omega
 have hmz:¬9223372036854775807<(n:Int):=by omega
 replace F:=F.add hu1 |>.add hu2 |>.add htk |>.add hone |>.add hmx |>.add hnn |>.add hmy |>.add hmz
 refine rK [0,1] ?_
 refine W.seqk fun K1 hK1=>?_
 refine rK [0,1,10] ?_
 refine cF ?_
 refine W.skip ?_
 refine hK1 _ ?_
 clear hK1 K1
 refine W.seqR ?_
 refine oN 5 ?_
 refine oC [] ?_
 refine ct (Mul_ok n (by omega) (by omega)) ?_
 refine oN 5 ?_
 refine oK [0,5,6] ?_
 refine W.seqk fun K2 hK2=>?_
 refine W.seqR ?_
 refine oN 3 ?_
 refine gT ?_
 refine gT ?_
 refine oN 1 ?_
 refine oK [0,6,26] ?_
 refine cF ?_
 refine W.skip ?_
 refine hK2 _ ?_
 clear hK2 K2
 refine rKw [0,7] ?_
 refine rK [7,8] ?_
 refine W.seqk fun K3 hK3=>?_
 refine W.block ?_
 refine lpa (α:=Nat) [7] [36,45] [240] (fun k=>[(8,I k)]) (fun k=>[(240,.row true 3 1 (repC k n))]) (fun k=>1≤k∧k≤n) (fun k=>n-k) 1 v0 ?_
 ·
  intro k hI0
  simp only [List.cons_append,List.nil_append]
  try dsimp only at hI0
  obtain ⟨hk1,hkn⟩:=hI0
  replace F:=F.add hk1 |>.add hkn
  refine W.seqk fun K4 hK4=>?_
  refine rK [7,8,37] ?_
  refine it (fun hc3=>?_) (fun hc3=>?_)
  ·
   try simp at hc3
   replace F:=F.add hc3
   refine W.skip ?_
   refine hK4 _ ?_
   clear hK4 K4
   refine W.block ?_
   obtain ⟨m,qm⟩:∃m,m=min (n-k) k:=⟨_,rfl⟩
   have hlt:k<n:=by omega
   have hk2:¬0=k:=by omega
   have hk3:¬k=0:=by omega
   have hk4:¬k=n:=by omega
   have hk5:k+(n-k)≤n:=by omega
   have ha1:=repC_len (k:=k) (n:=n) (by omega)
   have ha2:=repC_take (k:=k) (n:=n) (by omega)
   have ha3:min (n-k) k=m:=qm.symm
   have ha4:setSeg (repC k n) k (List.replicate m (I (-1)))=repC (k+m) n:=by have:=repC_step (k:=k) (n:=n) (m:=m) (by omega);rwa [List.map_replicate] at this
   replace F:=F.add hlt |>.add hk2 |>.add hk3 |>.add hk4 |>.add hk5 |>.add ha1 |>.add ha2 |>.add ha3 |>.add ha4
   refine wDe 8 [(7,[240])] [[],[],[],[2,1],[],[],[5,4],[4,5,6,1,2,3],[3,2,1,6,5,4,7,0],[0,7,4,5,6,1,2,3,8]] ?_
   refine dB [([39,40,41,42,43,44,45],[],[240]),([38,40,42,43,44],[false],[]),([38,39,42,43,44],[false,false],[]),([38,42,43,44],[false,true,true],[]),([38,39,40,41,43],[false,false,false,false],[]),([38,39,40,41,42],[false,false,false,false,false],[]),([38,39,40,41],[false,false,false,false,true,true],[])] 1 7 ?_
   refine WDraw.upd hΓ [240] (viewB_eq (L:=[38]) (S:=[false,true,true,true,true,true,true]) (O:=[]) (by kernel_rfl) (by kernel_rfl) (by simp [h0,hn,hu1,hu2,htk,hone,hmx,hnn,hmy,hmz,hk1,hkn,hc3,hlt,hk2,hk3,hk4,hk5,ha1,ha2,ha3,ha4];rfl)) (by first | rfl | simp) (by simp [h0,hn,hu1,hu2,htk,hone,hmx,hnn,hmy,hmz,hk1,hkn,hc3,hlt,hk2,hk3,hk4,hk5,ha1,ha2,ha3,ha4];first | rfl | exact ⟨rfl,rfl⟩) (by simp [h0,hn,hu1,hu2,htk,hone,hmx,hnn,hmy,hmz,hk1,hkn,hc3,hlt,hk2,hk3,hk4,hk5,ha1,ha2,ha3,ha4];first | done | rfl) (.inr (by simp)) (by simp [h0,hn,hu1,hu2,htk,hone,hmx,hnn,hmy,hmz,hk1,hkn,hc3,hlt,hk2,hk3,hk4,hk5,ha1,ha2,ha3,ha4];rfl) ?_
   refine dD ?_
   refine WOps.le Le.dedup rfl rfl ?_
   refine WOps.norm (by simp [h0,hn,hu1,hu2,htk,hone,hmx,hnn,hmy,hmz,hk1,hkn,hc3,hlt,hk2,hk3,hk4,hk5,ha1,ha2,ha3,ha4];rfl) ?_
   refine oNw 2 ?_
   refine WOps.endK ?_
   refine bn ?_
   refine ⟨k+m,lf0,v0,v0⟩
  ·
   try simp at hc3
   replace F:=F.add hc3
   refine W.exit ?_
   refine hK3 _ ?_
   clear hK4 K4 hK3 K3
   refine rK [4] ?_
   refine W.ret ?_
   refine er false [] [(20000,240)] ?_
   rw [show k=n by omega,repC_all];exact ⟨rfl,rfl⟩
end Go.Sim
