/- Benches: what the reference learns. -/
import Derived.Test.YtojjfnhjmfokhaaGreatQe
import Derived.Test.YtojjfnhjmfokhaaGreatLb
namespace Go.Sim
set_option maxHeartbeats 4000000
open Go.Proofs
set_option maxRecDepth 100000
set_option linter.unusedSimpArgs false
set_option linter.unusedVariables false
attribute [-simp] List.map_set List.map_take List.map_drop
attribute [simp] spn_eta rowK_def
theorem set_mapK (t:List (List Int)) (i:Nat) (r:List Int):(t.map rowK).set i (r.map I)=(t.set i r).map rowK:=by
  show (t.map rowK).set i (rowK r)=_
  exact List.map_set.symm
theorem gridK_last {T:KT}{R:List AV}:(T.map rowK++[R])[T.length]?=some R:=by
  rw [List.getElem?_append_right (by simp)];simp
theorem min_if (x y:Int):(if y<x then y else x)=min x y:=by split<;>omega
attribute [simp] set_mapK gridK_last min_if
theorem rmass_ok (n:Nat) (hn:n≤1000):ACalls Tryz.prog 102 [I n] [] (fun r o=>r=I ((1+n:Nat):Int)∧o=[]):=by
 have F:=Fx.nil
 replace F:=F.add hn
 refine ent Tryz.func102 Tryz.ntmps102 Tryz.results102 ?_
 refine rK [0] ?_
 refine rKw [2] ?_
 refine W.ret ?_
 exact er0 false [] []
theorem mistake_ok (b:Ben) (hm:b.mas.length≤1000) (hd:0≤b.days∧b.days≤8) (s d:Nat) (hs:s≤1000) (hdd:d≤1000):ACalls Tryz.prog 62 [benV b,I s,I d] [] (fun r o=>r=I (dayN b s d:Nat)∧o=[]):=by
 have F:=Fx.nil
 replace F:=F.add hm |>.add hs |>.add hdd
 refine ent Tryz.func62 Tryz.ntmps62 Tryz.results62 ?_
 obtain ⟨hd1,hd2⟩:=hd
 have hd19:0≤b.days:=hd1
 have hd29:b.days≤8:=hd2
 have qdd:(dd b:Int)=b.days+1:=by unfold dd;omega
 have qle:s * dd b≤1000 * 9:=Nat.mul_le_mul hs (by unfold dd;omega)
 have hmul:mulI IntKind.i64 (s:Int) (b.days+1)=((s * dd b:Nat):Int):=by
   rw [mulI_eq,←qdd,←Int.natCast_mul];exact wrap_i64 (by omega) (by omega)
 obtain ⟨m,qm⟩:∃m,s * dd b=m:=⟨_,rfl⟩
 rw [qm] at hmul qle
 have hm9:m≤9000:=qle
 have qdn:dayN b s d=1+b.mas.length+m+d:=by unfold dayN;rw [qm]
 replace F:=F.add hd19 |>.add hd29 |>.add hmul |>.add hm9
 refine rK [1,2,3] ?_
 refine rKw [6] ?_
 refine W.ret ?_
 refine er false [] [] ?_
 exact ⟨congrArg I (by rw [qdn];omega),rfl⟩
abbrev gK (n:Nat) (K:KT):Obj:=.grid 3 1 28 n (K.map rowK)
theorem apart_ok (K:KT) (n:Nat) (hn1:1≤n) (hn2:n≤1000) (hs:SqK n K) (c:Cst) (hc:CstOk n c):ACalls Tryz.prog 101 [.agg [.own 10000 0 n],I c.u,I c.v,spnV c.x] [(10000,gK n K)] (fun r o=>r = .tup []∧o=[(10000,gK n (apartK K c))]):=by
 have F:=Fx.nil
 refine ent Tryz.func101 Tryz.ntmps101 Tryz.results101 ?_
 obtain ⟨hcu,hcv⟩:=hc
 have hcu9:c.u<n:=hcu
 have hcv9:c.v<n:=hcv
 have hKl:K.length=n:=hs.1
 have hKu:(K[c.u]'(by omega)).length=n:=hs.row (by omega)
 obtain ⟨x0,qx0⟩:∃x,at1 K c.u c.v=x:=⟨_,rfl⟩
 have hx0:(K[c.u]'(by omega))[c.v]'(by omega)=x0:=by rw [←at1_get];exact qx0
 obtain ⟨K1,qK1⟩:∃K',setK K c.u c.v (min x0 c.x.hi)=K':=⟨_,rfl⟩
 have hK1:K.set c.u ((K[c.u]'(by omega)).set c.v (min x0 c.x.hi))=K1:=by rw [←qK1,setK_get (by omega)]
 have qs1:SqK n K1:=by rw [←qK1];exact setK_sq hs hcu
 have hK1l:K1.length=n:=qs1.1
 have hK1v:(K1[c.v]'(by omega)).length=n:=qs1.row (by omega)
 obtain ⟨x1,qx1⟩:∃x,at1 K1 c.v c.u=x:=⟨_,rfl⟩
 have hx1:(K1[c.v]'(by omega))[c.u]'(by omega)=x1:=by rw [←at1_get];exact qx1
 have hK2:K1.set c.v ((K1[c.v]'(by omega)).set c.u (min x1 (IntKind.i64.wrap (-c.x.lo))))=apartK K c:=by
   rw [apartK,qx0,qK1,qx1,setK_get (by omega)]
 replace F:=F.add hcu9 |>.add hcv9 |>.add hKl |>.add hKu |>.add hx0 |>.add hK1 |>.add hK1l |>.add hK1v |>.add hx1 |>.add hK2
 refine rK [1,2,4,7] ?_
 refine wD 17 [] [[],[0],[],[2,0,1],[1,0,2,3],[],[],[6],[],[8,6,7],[7,6,8,9],[],[11,9,8,6,7,10],[10,7,6,8,9,11,12],[],[14],[14,15,12,11,9,8,6,7,10,13],[16,15,14,13,12,11,10,9,8,7,6,5,3,2,0,1,4],[4,1,0,2,3,5,6,7,8,9,10,11,12,13,14,15,16,17]] ?_
 refine dB [([10,13,14,15,16,17,18,19,20,21,22,23,24],[],[]),([10,13,14,15,16,17,18,19,20,21,22,23,24],[true],[]),([8,9,13,14,15,16,17,18,19,20,21,22,23,24],[false,false],[]),([13,14,15,16,17,18,19,20,21,22,23,24],[true,true,true],[]),([13,14,15,16,17,18,19,20,21,22,23,24],[true,true,true,true],[]),([8,9,10,11,12,14,15,16,17,18,19,20,21,22,23,24],[false,false,false,false,false],[]),([8,9,10,11,12,13,16,19,22,23],[false,false,false,false,false,false],[]),([8,9,10,11,12,13,16,19,22,23],[false,false,false,false,false,false,true],[]),([8,9,10,11,12,13,14,15,19,22,23],[false,false,false,false,false,false,false,false],[]),([8,9,10,11,12,13,19,22,23],[false,false,false,false,false,false,true,true,true],[]),([8,9,10,11,12,13,19,22,23],[false,false,false,false,false,false,true,true,true,true],[]),([8,9,10,11,12,13,14,15,16,17,18,22,23],[false,false,false,false,false,false,false,false,false,false,false],[]),([8,9,10,11,12,13,22,23],[false,false,false,false,false,false,true,true,true,true,true,true],[]),([8,9,10,11,12,13,22,23],[false,false,false,false,false,false,true,true,true,true,true,true,true],[]),([8,9,10,11,12,13,14,15,16,17,18,19,20,21],[false,false,false,false,false,false,false,false,false,false,false,false,false,false],[]),([8,9,10,11,12,13,14,15,16,17,18,19,20,21],[false,false,false,false,false,false,false,false,false,false,false,false,false,false,true],[]),([8,9,10,11,12,13],[false,false,false,false,false,false,true,true,true,true,true,true,true,true,true,true],[])] 0 17 ?_
 refine dD ?_
 refine oN 2 ?_
 refine oK [1,2,4,7] ?_
 refine wDe 18 [] [[],[0],[],[2,0,1],[1,0,2,3],[],[],[6],[],[8,6,7],[7,6,8,9],[],[11,9,8,6,7,10],[10,7,6,8,9,11,12],[],[14],[14,15],[15,14,16,12,11,9,8,6,7,10,13],[17,16,15,14,13,12,11,10,9,8,7,6,5,3,2,0,1,4],[4,1,0,2,3,5,6,7,8,9,10,11,12,13,14,15,16,17,18]] ?_
 refine dB [([28,31,32,33,34,35,36,37,38,39,40,41,42,43],[],[]),([28,31,32,33,34,35,36,37,38,39,40,41,42,43],[true],[]),([26,27,31,32,33,34,35,36,37,38,39,40,41,42,43],[false,false],[]),([31,32,33,34,35,36,37,38,39,40,41,42,43],[true,true,true],[]),([31,32,33,34,35,36,37,38,39,40,41,42,43],[true,true,true,true],[]),([26,27,28,29,30,32,33,34,35,36,37,38,39,40,41,42,43],[false,false,false,false,false],[]),([26,27,28,29,30,31,34,37,40,41,42],[false,false,false,false,false,false],[]),([26,27,28,29,30,31,34,37,40,41,42],[false,false,false,false,false,false,true],[]),([26,27,28,29,30,31,32,33,37,40,41,42],[false,false,false,false,false,false,false,false],[]),([26,27,28,29,30,31,37,40,41,42],[false,false,false,false,false,false,true,true,true],[]),([26,27,28,29,30,31,37,40,41,42],[false,false,false,false,false,false,true,true,true,true],[]),([26,27,28,29,30,31,32,33,34,35,36,40,41,42],[false,false,false,false,false,false,false,false,false,false,false],[]),([26,27,28,29,30,31,40,41,42],[false,false,false,false,false,false,true,true,true,true,true,true],[]),([26,27,28,29,30,31,40,41,42],[false,false,false,false,false,false,true,true,true,true,true,true,true],[]),([26,27,28,29,30,31,32,33,34,35,36,37,38,39],[false,false,false,false,false,false,false,false,false,false,false,false,false,false],[]),([26,27,28,29,30,31,32,33,34,35,36,37,38,39],[false,false,false,false,false,false,false,false,false,false,false,false,false,false,true],[]),([26,27,28,29,30,31,32,33,34,35,36,37,38,39],[false,false,false,false,false,false,false,false,false,false,false,false,false,false,true,true],[]),([26,27,28,29,30,31],[false,false,false,false,false,false,true,true,true,true,true,true,true,true,true,true,true],[])] 0 18 ?_
 refine dD ?_
 refine oN 2 ?_
 refine WOps.endK ?_
 exact en0 false [] [(10000,10000)]
abbrev bools (l:List Bool):AV:=.imm (l.map B)
def nRes (b:Ben):Nat:=b.wei.length+b.tri.length
theorem None_ok (b:Ben) (hLb:b.wei.length≤1000∧b.tri.length≤1000):ACalls Tryz.prog 103 [benV b] [] (fun r o=>r = .own 20000 0 (nRes b)∧o=[(20000,.row true 4 1 ((List.replicate (nRes b) false).map B))]):=by
 have F:=Fx.nil
 refine ent Tryz.func103 Tryz.ntmps103 Tryz.results103 ?_
 obtain ⟨hw1,hw2⟩:=hLb
 have hw19:b.wei.length≤1000:=hw1
 have hw29:b.tri.length≤1000:=hw2
 have hn16:(b.wei.length:Int)+b.tri.length≤16777216:=by omega
 have hn0:(0:Int)≤(b.wei.length:Int)+b.tri.length:=by omega
 have hnn:((b.wei.length:Int)+b.tri.length).toNat=b.wei.length+b.tri.length:=by omega
 replace F:=F.add hw19 |>.add hw29 |>.add hn16 |>.add hn0 |>.add hnn
 refine rK [1] ?_
 refine rKw [2] ?_
 refine W.ret ?_
 refine er false [] [(20000,80)] ?_
 exact ⟨rfl,by rw [List.map_replicate];rfl⟩
theorem All_ok (b:Ben) (hLb:b.wei.length≤1000∧b.tri.length≤1000):ACalls Tryz.prog 60 [benV b] [] (fun r o=>r = .own 20000 0 (nRes b)∧o=[(20000,.row true 4 1 ((List.replicate (nRes b) true).map B))]):=by
 have F:=Fx.nil
 refine ent Tryz.func60 Tryz.ntmps60 Tryz.results60 ?_
 refine rK [1] ?_
 refine W.seqR ?_
 refine oN 1 ?_
 refine oC [] ?_
 refine ct (None_ok b hLb) ?_
 refine oN 1 ?_
 refine oK [3] ?_
 refine W.seqk fun K1 hK1=>?_
 refine rK [3,4] ?_
 refine W.block ?_
 refine lpa (α:=Nat×List Bool) [3] [9] [48] (fun x=>[(4,I x.1)]) (fun x=>[(48,.row true 4 1 (x.2.map B))]) (fun x=>x.1≤nRes b∧x.2.length=nRes b∧x.2.take x.1=List.replicate x.1 true) (fun x=>nRes b-x.1) (0,List.replicate (nRes b) false) ?_ ?_
 ·
  exact ⟨Nat.zero_le _,List.length_replicate,rfl⟩
 ·
  intro ⟨i,l⟩ hI0
  simp only [List.cons_append,List.nil_append]
  try dsimp only at hI0
  obtain ⟨hi,hll,kt⟩:=hI0
  replace F:=F.add hi |>.add hll
  refine W.seqk fun K2 hK2=>?_
  have hn2:nRes b≤2000:=by unfold nRes;omega
  replace F:=F.add hn2
  refine rK [3,4,10] ?_
  refine it (fun hc1=>?_) (fun hc1=>?_)
  ·
   try simp at hc1
   replace F:=F.add hc1
   refine W.skip ?_
   refine hK2 _ ?_
   clear hK2 K2
   refine W.seqk fun K3 hK3=>?_
   refine W.block ?_
   have hil:i<nRes b:=by omega
   replace F:=F.add hil
   refine rE ?_
   refine hK3 _ ?_
   clear hK3 K3
   refine rEw ?_
   refine ⟨(i+1,l.set i true),lf0, ?_,v0⟩
   ·
    refine ⟨by show i+1≤_;omega,by show (l.set i true).length=_;rw [List.length_set];exact hll, ?_⟩
    show (l.set i true).take (i+1)=List.replicate (i+1) true
    rw [List.take_succ_eq_append_getElem (by rw [List.length_set];omega),List.take_set,List.set_eq_of_length_le (by rw [List.length_take];omega),kt,List.getElem_set_self,List.replicate_succ']
  ·
   try simp at hc1
   replace F:=F.add hc1
   refine W.exit ?_
   refine hK1 _ ?_
   clear hK2 K2 hK1 K1
   refine rK [2] ?_
   refine W.ret ?_
   refine er false [] [(20000,48)] ?_
   refine ⟨rfl, ?_⟩
   have e:l=List.replicate (nRes b) true:=by
     rw [show i=nRes b by omega,List.take_of_length_le (by omega)] at kt;exact kt
   rw [e]
def IsF (n:Nat) (T:KT):Prop:=T=(List.range T.length).map (rowF n)
theorem IsF.nil (n:Nat):IsF n []:=rfl
theorem IsF.snoc {n:Nat}{T:KT}(h:IsF n T){R:List Int}(hR:R=rowF n T.length):IsF n (T++[R]):=by
  unfold IsF at h ⊢
  rw [List.length_append,List.length_singleton,List.range_succ,List.map_append,←h,hR];rfl
theorem IsF.all {n:Nat}{T:KT}(h:IsF n T) (hl:T.length=n):T=freeK n:=by
  unfold IsF at h
  rw [h,hl];rfl
theorem rowI_ext {a b:List Int}{n:Nat}(ha:a.length=n) (hb:b.length=n) (h:∀j,j<n→nth a j=nth b j):a=b:=by
  refine List.ext_getElem (by omega) fun i h1 h2=>?_
  have:=h i (by omega)
  rwa [nth_get h1,nth_get h2] at this
theorem nth_setI {l:List Int}{i j:Nat}{v:Int}(hi:i<l.length):nth (l.set i v) j=if j=i then v else nth l j:=by
  by_cases e:j=i
  · subst e;rw [if_pos rfl,nth_get (by rw [List.length_set];exact hi),List.getElem_set_self]
  · rw [if_neg e]
    unfold nth
    rw [List.getD_eq_getElem?_getD,List.getD_eq_getElem?_getD,List.getElem?_set_ne (Ne.symm e)]
theorem nthI_rep {n j:Nat}:nth (List.replicate n (0:Int)) j=0:=by
  unfold nth
  rw [List.getD_eq_getElem?_getD,List.getElem?_replicate];split<;>rfl
theorem cst_m {b:Ben}{i:Nat}(hi:i<b.mas.length):baseC b i=⟨1+i,0,b.mas[i].off⟩:=by rw [baseC,if_pos hi,nth_get hi]
theorem cst_s {b:Ben}{s:Nat}(hs:s<b.scl.length):baseC b (b.mas.length+s * dd b)=⟨0,b.mas.length+s * dd b+1,b.scl[s].fst⟩:=by
  have e1:b.mas.length+s * dd b-b.mas.length=s * dd b:=by omega
  rw [baseC,if_neg (by omega),e1,if_pos (Nat.mul_mod_left _ _),Nat.mul_div_cancel _ (dd_pos b),nth_get hs]
theorem cst_d {b:Ben}{s d:Nat}(hs:s<b.scl.length) (hd:(d:Int)<b.days):baseC b (b.mas.length+s * dd b+1+d)=⟨b.mas.length+s * dd b+1+d,b.mas.length+s * dd b+1+d+1,b.scl[s].dri⟩:=by
  have hdd:d+1<dd b:=by unfold dd;omega
  have e1:b.mas.length+s * dd b+1+d-b.mas.length=(d+1)+s * dd b:=by omega
  have e2:((d+1)+s * dd b) % dd b=d+1:=by rw [Nat.add_mul_mod_self_right,Nat.mod_eq_of_lt hdd]
  have e3:((d+1)+s * dd b) / dd b=s:=by rw [Nat.add_mul_div_right _ _ (dd_pos b),Nat.div_eq_of_lt hdd];omega
  rw [baseC,if_neg (by omega),e1,e2,if_neg (by omega),e3,nth_get hs]
theorem ap_next {b:Ben}(hv:ValidB b){k u v:Nat}{x:Spn}(hk:k+1<sizeB b) (h:baseC b k=⟨u,v,x⟩):ACalls Tryz.prog 101 [.agg [.own 10000 0 (sizeB b)],I u,I v,spnV x] [(10000,gK (sizeB b) (baseK b k))] (fun r o=>r = .tup []∧o=[(10000,gK (sizeB b) (baseK b (k+1)))]):=by
  have hn:=sizeB_le hv
  have hc:=baseC_ok hv hk
  have:=apart_ok (baseK b k) (sizeB b) (by omega) (by omega) (baseK_sq hv k (by omega)) _ hc
  rw [←baseK_succ,h] at this
  exact this
theorem use_next {b:Ben}(hv:ValidB b){use:List Bool}{i u v:Nat}{x:Spn}(hi:i<b.wei.length+b.tri.length) (h:resC b i=⟨u,v,x⟩) (hu:nth use i=true):ACalls Tryz.prog 101 [.agg [.own 10000 0 (sizeB b)],I u,I v,spnV x] [(10000,gK (sizeB b) (useK b use i))] (fun r o=>r = .tup []∧o=[(10000,gK (sizeB b) (useK b use (i+1)))]):=by
  have hn:=sizeB_le hv
  have hc:=resC_ok hv hi
  have:=apart_ok (useK b use i) (sizeB b) (by omega) (by omega) (useK_sq hv use i (by omega)) _ hc
  rw [useK_succ,if_pos hu,h]
  rw [h] at this
  exact this
theorem Learn_ok (b:Ben) (hv:ValidB b) (use:List Bool) (hu:use.length=b.wei.length+b.tri.length):ACalls Tryz.prog 59 [benV b,bools use] [] (fun r o=>r = .tup [.agg [kV (learnK b use)],B (learnB b use)]∧o=[]):=by
 have F:=Fx.nil
 refine ent Tryz.func59 Tryz.ntmps59 Tryz.results59 ?_
 have qd:=hv.days
 have hd1:0≤b.days:=qd.1
 have hd2:b.days≤8:=qd.2
 have hm5:b.mas.length≤5:=hv.m5
 have hs3:b.scl.length≤3:=hv.s3
 have hw6:b.wei.length≤6:=hv.w6
 have ht6:b.tri.length≤6:=hv.t6
 have hul:use.length=b.wei.length+b.tri.length:=hu
 obtain ⟨qn1,qn2⟩:=sizeB_le hv
 have qdd:(dd b:Int)=b.days+1:=by unfold dd;omega
 have hmul:mulI IntKind.i64 (b.scl.length:Int) (b.days+1)=((b.scl.length * dd b:Nat):Int):=by
   rw [mulI_eq,←qdd,←Int.natCast_mul]
   have:=Nat.mul_le_mul hs3 (dd_le hv)
   exact wrap_i64 (by omega) (by omega)
 have qsz:sizeB b=1+b.mas.length+b.scl.length * dd b:=rfl
 obtain ⟨n,qn⟩:∃n,sizeB b=n:=⟨_,rfl⟩
 rw [qn] at qn1 qn2 qsz
 obtain ⟨sd,qsd⟩:∃m,b.scl.length * dd b=m:=⟨_,rfl⟩
 rw [qsd] at qsz hmul
 have hn1:3≤n:=qn1
 have hn2:n≤33:=qn2
 have hnp:0<n:=by omega
 have hn16:(n:Int)≤16777216:=by omega
 have hn0:(0:Int)≤n:=by omega
 have hnz:(1:Int)+(b.mas.length:Int)+(sd:Int)=(n:Int):=by omega
 have hsd:sd≤33:=by omega
 replace F:=F.add hd1 |>.add hd2 |>.add hm5 |>.add hs3 |>.add hw6 |>.add ht6 |>.add hul |>.add hmul |>.add hn1 |>.add hn2 |>.add hnp |>.add hn16 |>.add hn0 |>.add hnz |>.add hsd
 refine rK [1,2,4] ?_
 refine rKw [1,2,4,6] ?_
 refine rK [1,2,4,6,7] ?_
 refine W.seqk fun K1 hK1=>?_
 refine W.seqR ?_
 refine WOps.le (Le.ownNilO (id:=56) (k:=0) (j:=0) (nid:=9000) (ty:=28) (sz:=1) (by simp [hd1,hd2,hm5,hs3,hw6,ht6,hul,hmul,hn1,hn2,hnp,hn16,hn0,hnz,hsd];rfl)) rfl rfl ?_
 refine WOps.le (Le.asGrid (id:=9000) (ty:=3) (sz:=1) (by simp [hd1,hd2,hm5,hs3,hw6,ht6,hul,hmul,hn1,hn2,hnp,hn16,hn0,hnz,hsd];rfl)) rfl rfl ?_
 refine oN 1 ?_
 refine oK [1,2,4,6,7,8] ?_
 refine W.block ?_
 refine lp (α:=KT) [1,2,4,6,7] [41,56,57] [56,9000] (fun T=>[(8,I T.length)]) (fun T=>[(56,.row false 129 1 [.agg [.own 9000 0 T.length]]),(9000,gK T.length T)]) (fun T=>T.length≤n∧IsF n T) (fun T=>n-T.length) [] ?_ ?_ ?_ ?_
 ·
  exact v1
 ·
  try (simp [Fx.get F])
  all_goals (
   first
   | rfl
   | (rw [qTn,←qn];rfl)
   | (rw [qK0];rfl)
   | (rw [hie];simp;done)
   | (rw [hje,qK0];rfl)
   | trivial
  )
 ·
  first
  | exact ⟨Nat.zero_le _,IsF.nil n⟩
  | exact ⟨Nat.zero_le _,List.length_replicate,fun j hj=>by rw [if_neg (Nat.not_lt_zero _)];exact nthI_rep⟩
  | exact ⟨Nat.zero_le _,fun j hj=>absurd hj (Nat.not_lt_zero _)⟩
  | omega
 ·
  intro T hI0
  simp only [List.cons_append,List.nil_append]
  try dsimp only at hI0
  obtain ⟨hTn,kT⟩:=hI0
  replace F:=F.add hTn
  refine W.seqk fun K2 hK2=>?_
  refine rK [1,2,4,6,7,8,37] ?_
  refine it (fun hc1=>?_) (fun hc1=>?_)
  ·
   try simp at hc1
   replace F:=F.add hc1
   refine W.skip ?_
   refine hK2 _ ?_
   clear hK2 K2
   refine W.seqk fun K3 hK3=>?_
   refine W.block ?_
   have hTl:T.length<n:=by omega
   replace F:=F.add hTl
   refine rK [1,2,4,6,7,8,9] ?_
   refine W.seqk fun K4 hK4=>?_
   refine rK [1,2,4,6,7,8,9,10] ?_
   refine W.block ?_
   refine lp (α:=Nat×List Int) [1,2,4,6,7,8,9] [] [328] (fun x=>[(10,I x.1)]) (fun x=>[(328,.row true 3 1 (x.2.map I))]) (fun x=>x.1≤n∧x.2.length=n∧∀j,j<n→nth x.2 j=if j<x.1 then nth (rowF n T.length) j else 0) (fun x=>n-x.1) (0,List.replicate n 0) ?_ ?_ ?_ ?_
   ·
    exact v1
   ·
    try (simp [Fx.get F])
    all_goals (
     first
     | rfl
     | (rw [qTn,←qn];rfl)
     | (rw [qK0];rfl)
     | (rw [hie];simp;done)
     | (rw [hje,qK0];rfl)
     | trivial
    )
   ·
    first
    | exact ⟨Nat.zero_le _,IsF.nil n⟩
    | exact ⟨Nat.zero_le _,List.length_replicate,fun j hj=>by rw [if_neg (Nat.not_lt_zero _)];exact nthI_rep⟩
    | exact ⟨Nat.zero_le _,fun j hj=>absurd hj (Nat.not_lt_zero _)⟩
    | omega
   ·
    intro ⟨k,R⟩ hI1
    simp only [List.cons_append,List.nil_append]
    try dsimp only at hI1
    obtain ⟨hk,hRl,kR⟩:=hI1
    replace F:=F.add hk |>.add hRl
    refine W.seqk fun K5 hK5=>?_
    refine rK [1,2,4,6,7,8,9,10,44] ?_
    refine it (fun hc2=>?_) (fun hc2=>?_)
    ·
     try simp at hc2
     replace F:=F.add hc2
     refine W.skip ?_
     refine hK5 _ ?_
     clear hK5 K5
     refine W.seqk fun K6 hK6=>?_
     refine W.block ?_
     have hkn:k<n:=by omega
     replace F:=F.add hkn
     refine rK [1,2,4,6,7,8,9,10,49] ?_
     refine it (fun hc3=>?_) (fun hc3=>?_)
     ·
      try simp at hc3
      replace F:=F.add hc3
      refine rE ?_
      refine hK6 _ ?_
      clear hK6 K6
      refine rEw ?_
      refine ⟨(k+1,R.set k 1099511627776),lf ?_ ?_, ?_,v0⟩
      ·
       exact v1
      ·
       try (simp [Fx.get F])
       all_goals (
        first
        | rfl
        | (rw [show b.mas.length+(s+1) * dd b=b.mas.length+s * dd b+1+d by have:(d:Int)=b.days:=(by omega);have:dd b=d+1:=(by unfold dd;omega);omega])
        | (rw [fwU,qKU,show v=n by omega])
        | (rw [fwM,qKM,show u=n by omega])
        | (simp;done)
       )
      ·
       exact ⟨by show k+1≤n;omega,by show (R.set k _).length=n;rw [List.length_set];exact hRl,fun j hj=>by show nth (R.set k _) j=if j<k+1 then _ else _;rw [nth_setI (by omega),kR j hj,rowF_nth hj];by_cases e:j=k<;>by_cases e2:j<k<;>by_cases e3:T.length=j<;>simp [e,e2,e3]<;>omega⟩
     ·
      try simp at hc3
      replace F:=F.add hc3
      refine W.skip ?_
      refine hK6 _ ?_
      clear hK6 K6
      refine rEw ?_
      refine ⟨(k+1,R),lf ?_ ?_, ?_,v0⟩
      ·
       exact v1
      ·
       try (simp [Fx.get F])
       all_goals (
        first
        | rfl
        | (rw [show b.mas.length+(s+1) * dd b=b.mas.length+s * dd b+1+d by have:(d:Int)=b.days:=(by omega);have:dd b=d+1:=(by unfold dd;omega);omega])
        | (rw [fwU,qKU,show v=n by omega])
        | (rw [fwM,qKM,show u=n by omega])
        | (simp;done)
       )
      ·
       exact ⟨by show k+1≤n;omega,hRl,fun j hj=>by show nth R j=if j<k+1 then _ else _;rw [kR j hj,rowF_nth hj];by_cases e2:j<k<;>by_cases e4:j<k+1<;>by_cases e3:T.length=j<;>simp [e2,e3,e4]<;>omega⟩
    ·
     try simp at hc2
     replace F:=F.add hc2
     refine W.exit ?_
     refine hK4 _ ?_
     clear hK5 K5 hK4 K4
     have hRp:0<n:=by omega
     replace F:=F.add hRp
     refine W.region ?_
     refine oN 3 ?_
     refine WOps.raw hΓ 448 rfl rfl rfl rfl rfl rfl rfl (by simp [hd1,hd2,hm5,hs3,hw6,ht6,hul,hmul,hn1,hn2,hnp,hn16,hn0,hnz,hsd,hTn,hc1,hTl,hk,hRl,hc2,hRp];all_goals first | rfl | exact ⟨rfl,rfl⟩) (by decide) (by simp [hd1,hd2,hm5,hs3,hw6,ht6,hul,hmul,hn1,hn2,hnp,hn16,hn0,hnz,hsd,hTn,hc1,hTl,hk,hRl,hc2,hRp];all_goals first | rfl | exact ⟨rfl,rfl⟩) ?_
     refine WOps.gapp hΓ rfl rfl rfl rfl rfl rfl rfl (by simp [hd1,hd2,hm5,hs3,hw6,ht6,hul,hmul,hn1,hn2,hnp,hn16,hn0,hnz,hsd,hTn,hc1,hTl,hk,hRl,hc2,hRp];all_goals first | rfl | exact ⟨rfl,rfl⟩ | exact ⟨rfl,rfl,rfl⟩ | exact ⟨rfl,rfl,rfl,rfl⟩ | exact ⟨rfl,rfl,rfl,rfl,rfl⟩ | omega) (by simp [hd1,hd2,hm5,hs3,hw6,ht6,hul,hmul,hn1,hn2,hnp,hn16,hn0,hnz,hsd,hTn,hc1,hTl,hk,hRl,hc2,hRp];all_goals first | rfl | exact ⟨rfl,rfl⟩ | exact ⟨rfl,rfl,rfl⟩ | exact ⟨rfl,rfl,rfl,rfl⟩ | exact ⟨rfl,rfl,rfl,rfl,rfl⟩ | omega) (by simp [hd1,hd2,hm5,hs3,hw6,ht6,hul,hmul,hn1,hn2,hnp,hn16,hn0,hnz,hsd,hTn,hc1,hTl,hk,hRl,hc2,hRp];all_goals first | rfl | exact ⟨rfl,rfl⟩ | exact ⟨rfl,rfl,rfl⟩ | exact ⟨rfl,rfl,rfl,rfl⟩ | exact ⟨rfl,rfl,rfl,rfl,rfl⟩ | omega) (by simp [hd1,hd2,hm5,hs3,hw6,ht6,hul,hmul,hn1,hn2,hnp,hn16,hn0,hnz,hsd,hTn,hc1,hTl,hk,hRl,hc2,hRp];all_goals first | rfl | exact ⟨rfl,rfl⟩ | exact ⟨rfl,rfl,rfl⟩ | exact ⟨rfl,rfl,rfl,rfl⟩ | exact ⟨rfl,rfl,rfl,rfl,rfl⟩ | omega) (by simp [hd1,hd2,hm5,hs3,hw6,ht6,hul,hmul,hn1,hn2,hnp,hn16,hn0,hnz,hsd,hTn,hc1,hTl,hk,hRl,hc2,hRp];all_goals first | rfl | exact ⟨rfl,rfl⟩ | exact ⟨rfl,rfl,rfl⟩ | exact ⟨rfl,rfl,rfl,rfl⟩ | exact ⟨rfl,rfl,rfl,rfl,rfl⟩ | omega) (by simp [hd1,hd2,hm5,hs3,hw6,ht6,hul,hmul,hn1,hn2,hnp,hn16,hn0,hnz,hsd,hTn,hc1,hTl,hk,hRl,hc2,hRp];all_goals first | rfl | exact ⟨rfl,rfl⟩ | exact ⟨rfl,rfl,rfl⟩ | exact ⟨rfl,rfl,rfl,rfl⟩ | exact ⟨rfl,rfl,rfl,rfl,rfl⟩ | omega) (by simp [hd1,hd2,hm5,hs3,hw6,ht6,hul,hmul,hn1,hn2,hnp,hn16,hn0,hnz,hsd,hTn,hc1,hTl,hk,hRl,hc2,hRp];all_goals first | rfl | exact ⟨rfl,rfl⟩ | exact ⟨rfl,rfl,rfl⟩ | exact ⟨rfl,rfl,rfl,rfl⟩ | exact ⟨rfl,rfl,rfl,rfl,rfl⟩ | omega) (by simp [hd1,hd2,hm5,hs3,hw6,ht6,hul,hmul,hn1,hn2,hnp,hn16,hn0,hnz,hsd,hTn,hc1,hTl,hk,hRl,hc2,hRp];all_goals first | rfl | exact ⟨rfl,rfl⟩ | exact ⟨rfl,rfl,rfl⟩ | exact ⟨rfl,rfl,rfl,rfl⟩ | exact ⟨rfl,rfl,rfl,rfl,rfl⟩ | omega) (by decide) (by simp [hd1,hd2,hm5,hs3,hw6,ht6,hul,hmul,hn1,hn2,hnp,hn16,hn0,hnz,hsd,hTn,hc1,hTl,hk,hRl,hc2,hRp];(try (simp (disch:=omega) only [wrap_i64,mul_i64,capOk_of];(try simp [hd1,hd2,hm5,hs3,hw6,ht6,hul,hmul,hn1,hn2,hnp,hn16,hn0,hnz,hsd,hTn,hc1,hTl,hk,hRl,hc2,hRp])));all_goals first | rfl | exact capOk_of (by omega) (by decide)) (by simp [hd1,hd2,hm5,hs3,hw6,ht6,hul,hmul,hn1,hn2,hnp,hn16,hn0,hnz,hsd,hTn,hc1,hTl,hk,hRl,hc2,hRp];all_goals first | rfl | exact ⟨rfl,rfl⟩ | exact ⟨rfl,rfl,rfl⟩ | exact ⟨rfl,rfl,rfl,rfl⟩ | exact ⟨rfl,rfl,rfl,rfl,rfl⟩ | omega) ?_
     refine oN 2 ?_
     refine WOps.endK ?_
     refine hK3 _ ?_
     clear hK3 K3
     refine rEw ?_
     refine ⟨T++[R],lf ?_ ?_, ?_, ?_⟩
     ·
      exact v1
     ·
      try (simp [Fx.get F])
      all_goals (
       first
       | rfl
       | (rw [show b.mas.length+(s+1) * dd b=b.mas.length+s * dd b+1+d by have:(d:Int)=b.days:=(by omega);have:dd b=d+1:=(by unfold dd;omega);omega])
       | (rw [fwU,qKU,show v=n by omega])
       | (rw [fwM,qKM,show u=n by omega])
       | (simp;done)
      )
     ·
      exact ⟨by show (T++[R]).length≤n;rw [List.length_append,List.length_singleton];omega,kT.snoc (rowI_ext hRl (by simp [rowF]) fun j hj=>by rw [kR j hj,if_pos (by omega)])⟩
     ·
      show n-(T++[R]).length<n-T.length;rw [List.length_append,List.length_singleton];omega
  ·
   try simp at hc1
   replace F:=F.add hc1
   refine W.exit ?_
   refine hK1 _ ?_
   clear hK2 K2 hK1 K1
   refine W.seqk fun K7 hK7=>?_
   refine rK [1,2,4,6,7,11] ?_
   refine W.block ?_
   have qTn:T=freeK n:=kT.all (by omega)
   have hTe:T.length=n:=by omega
   replace F:=F.add hTe
   refine lp (α:=Nat) [1,2,4,6,7] [62,68,75] [9000] (fun i=>[(11,I i)]) (fun i=>[(9000,gK n (baseK b i))]) (fun i=>i≤b.mas.length) (fun i=>b.mas.length-i) 0 ?_ ?_ ?_ ?_
   ·
    exact v1
   ·
    try (simp [Fx.get F])
    all_goals (
     first
     | rfl
     | (rw [qTn,←qn];rfl)
     | (rw [qK0];rfl)
     | (rw [hie];simp;done)
     | (rw [hje,qK0];rfl)
     | trivial
    )
   ·
    first
    | exact ⟨Nat.zero_le _,IsF.nil n⟩
    | exact ⟨Nat.zero_le _,List.length_replicate,fun j hj=>by rw [if_neg (Nat.not_lt_zero _)];exact nthI_rep⟩
    | exact ⟨Nat.zero_le _,fun j hj=>absurd hj (Nat.not_lt_zero _)⟩
    | omega
   ·
    intro i hI2
    simp only [List.cons_append,List.nil_append]
    try dsimp only at hI2
    replace F:=F.add hI2
    refine W.seqk fun K8 hK8=>?_
    refine rK [1,2,4,6,7,11,63] ?_
    refine it (fun hc4=>?_) (fun hc4=>?_)
    ·
     try simp at hc4
     replace F:=F.add hc4
     refine W.skip ?_
     refine hK8 _ ?_
     clear hK8 K8
     refine W.seqk fun K9 hK9=>?_
     refine W.block ?_
     have him:i<b.mas.length:=by omega
     have qk:=ap_next hv (k:=i) (by rw [qn];omega) (cst_m him)
     rw [qn] at qk
     replace F:=F.add him
     refine wDe 9 [] [[],[],[1],[],[3],[],[5,3,4],[4,3,5,6],[6,5,3,4,7],[7,4,3,5,6,8,1,2,0]] ?_
     refine dB [([67,68,69,70,71,72,73,74],[],[]),([66,69,70,71,72,73,74],[false],[])] 7 2 ?_
     refine dC [66,69,70,71,72,73,74] [false,true] [] [] ?_
     refine cd (rmass_ok i (by omega)) ?_
     refine dB [([66,67,68,71],[false,false,false],[]),([66,67,68,71],[false,false,false,true],[]),([66,67,68,69,70],[false,false,false,false,false],[]),([66,67,68],[false,false,false,true,true,true],[]),([66,67,68],[false,false,false,true,true,true,true],[]),([66,67,68],[false,false,false,true,true,true,true,true],[])] 0 9 ?_
     refine dD ?_
     refine oC [(10000,9000)] ?_
     refine ct (qk) ?_
     refine WOps.endK ?_
     refine hK9 _ ?_
     clear hK9 K9
     refine rEw ?_
     refine ⟨i+1,lf ?_ ?_,v0,v0⟩
     ·
      exact v1
     ·
      try (simp [Fx.get F])
      all_goals (
       first
       | rfl
       | (rw [show b.mas.length+(s+1) * dd b=b.mas.length+s * dd b+1+d by have:(d:Int)=b.days:=(by omega);have:dd b=d+1:=(by unfold dd;omega);omega])
       | (rw [fwU,qKU,show v=n by omega])
       | (rw [fwM,qKM,show u=n by omega])
       | (simp;done)
      )
    ·
     try simp at hc4
     replace F:=F.add hc4
     refine W.exit ?_
     refine hK7 _ ?_
     clear hK8 K8 hK7 K7
     refine W.seqk fun K10 hK10=>?_
     refine rK [1,2,4,6,7,12] ?_
     refine W.block ?_
     have hie:i=b.mas.length:=by omega
     replace F:=F.add hie
     refine lp (α:=Nat) [1,2,4,6,7] [79,86,93,104,109,116] [9000] (fun s=>[(12,I s)]) (fun s=>[(9000,gK n (baseK b (b.mas.length+s * dd b)))]) (fun s=>s≤b.scl.length) (fun s=>b.scl.length-s) 0 ?_ ?_ ?_ ?_
     ·
      exact v1
     ·
      try (simp [Fx.get F])
      all_goals (
       first
       | rfl
       | (rw [qTn,←qn];rfl)
       | (rw [qK0];rfl)
       | (rw [hie];simp;done)
       | (rw [hje,qK0];rfl)
       | trivial
      )
     ·
      first
      | exact ⟨Nat.zero_le _,IsF.nil n⟩
      | exact ⟨Nat.zero_le _,List.length_replicate,fun j hj=>by rw [if_neg (Nat.not_lt_zero _)];exact nthI_rep⟩
      | exact ⟨Nat.zero_le _,fun j hj=>absurd hj (Nat.not_lt_zero _)⟩
      | omega
     ·
      intro s hI3
      simp only [List.cons_append,List.nil_append]
      try dsimp only at hI3
      replace F:=F.add hI3
      refine W.seqk fun K11 hK11=>?_
      refine rK [1,2,4,6,7,12,80] ?_
      refine it (fun hc5=>?_) (fun hc5=>?_)
      ·
       try simp at hc5
       replace F:=F.add hc5
       refine W.skip ?_
       refine hK11 _ ?_
       clear hK11 K11
       refine W.seqk fun K12 hK12=>?_
       refine W.block ?_
       have hsl:s<b.scl.length:=by omega
       have qmul:(s+1) * dd b≤b.scl.length * dd b:=Nat.mul_le_mul_right _ hsl
       have qdp:=dd_pos b
       have qmu2:(s+1) * dd b=s * dd b+dd b:=by rw [Nat.add_mul,Nat.one_mul]
       have qdy:dayN b s 0=b.mas.length+s * dd b+1:=by unfold dayN;omega
       have qk:=ap_next hv (k:=b.mas.length+s * dd b) (v:=dayN b s 0) (by rw [qn];omega) (by rw [cst_s hsl,qdy])
       rw [qn] at qk
       have qdi:=mistake_ok b (by omega) qd s 0 (by omega) (by omega)
       replace F:=F.add hsl
       refine wD 10 [] [[],[],[],[2,1],[],[4],[],[6,4,5],[5,4,6,7],[7,6,4,5,8],[8,5,4,6,7,9,1,2,3,0]] ?_
       refine dB [([84,85,86,87,88,89,90,91,92],[],[]),([83,85,87,88,89,90,91,92],[false],[]),([83,84,87,88,89,90,91,92],[false,false],[])] 7 3 ?_
       refine dC [83,87,88,89,90,91,92] [false,true,true] [] [] ?_
       refine cd (qdi) ?_
       refine dB [([83,84,85,86,89],[false,false,false,false],[]),([83,84,85,86,89],[false,false,false,false,true],[]),([83,84,85,86,87,88],[false,false,false,false,false,false],[]),([83,84,85,86],[false,false,false,false,true,true,true],[]),([83,84,85,86],[false,false,false,false,true,true,true,true],[]),([83,84,85,86],[false,false,false,false,true,true,true,true,true],[])] 0 10 ?_
       refine dD ?_
       refine oC [(10000,9000)] ?_
       refine ct (qk) ?_
       refine oK [1,2,4,6,7,12] ?_
       refine rK [1,2,4,6,7,12,13] ?_
       refine W.block ?_
       refine lp (α:=Nat) [1,2,4,6,7,12] [104,109,116] [9000] (fun d=>[(13,I d)]) (fun d=>[(9000,gK n (baseK b (b.mas.length+s * dd b+1+d)))]) (fun d=>(d:Int)≤b.days) (fun d=>b.days.toNat-d) 0 ?_ ?_ ?_ ?_
       ·
        exact v1
       ·
        try (simp [Fx.get F])
        all_goals (
         first
         | rfl
         | (rw [qTn,←qn];rfl)
         | (rw [qK0];rfl)
         | (rw [hie];simp;done)
         | (rw [hje,qK0];rfl)
         | trivial
        )
       ·
        first
        | exact ⟨Nat.zero_le _,IsF.nil n⟩
        | exact ⟨Nat.zero_le _,List.length_replicate,fun j hj=>by rw [if_neg (Nat.not_lt_zero _)];exact nthI_rep⟩
        | exact ⟨Nat.zero_le _,fun j hj=>absurd hj (Nat.not_lt_zero _)⟩
        | omega
       ·
        intro d hI4
        simp only [List.cons_append,List.nil_append]
        try dsimp only at hI4
        replace F:=F.add hI4
        refine W.seqk fun K13 hK13=>?_
        refine rK [1,2,4,6,7,12,13,97] ?_
        refine it (fun hc6=>?_) (fun hc6=>?_)
        ·
         try simp at hc6
         replace F:=F.add hc6
         refine W.skip ?_
         refine hK13 _ ?_
         clear hK13 K13
         refine W.seqk fun K14 hK14=>?_
         refine W.block ?_
         have hdl:(d:Int)<b.days:=by omega
         have qdl:d+1<dd b:=by unfold dd;omega
         have q1:dayN b s d=b.mas.length+s * dd b+1+d:=by unfold dayN;omega
         have q2:dayN b s (d+1)=b.mas.length+s * dd b+1+d+1:=by unfold dayN;omega
         have qk2:=ap_next hv (k:=b.mas.length+s * dd b+1+d) (u:=dayN b s d) (v:=dayN b s (d+1)) (by rw [qn];omega) (by rw [cst_d hsl hdl,q1,q2])
         rw [qn] at qk2
         have qda:=mistake_ok b (by omega) qd s d (by omega) (by omega)
         have qdb:=mistake_ok b (by omega) qd s (d+1) (by omega) (by omega)
         replace F:=F.add hdl
         refine wDe 16 [] [[],[],[],[],[3,2,1],[],[],[],[7],[1,2,3,4,7,8,6,5],[],[10],[],[12,10,11],[11,10,12,13],[13,12,10,11,14],[14,11,10,12,13,15,5,6,8,7,9,1,2,3,4,0]] ?_
         refine dB [([101,102,103,104,105,106,107,108,109,110,111,112,113,114,115],[],[]),([100,102,103,105,106,107,108,110,111,112,113,114,115],[false],[]),([100,101,103,105,106,107,108,110,111,112,113,114,115],[false,false],[]),([100,101,102,105,106,107,108,110,111,112,113,114,115],[false,false,false],[])] 12 4 ?_
         refine dC [100,105,106,107,108,110,111,112,113,114,115] [false,true,true,true] [] [] ?_
         refine cd (qda) ?_
         refine dBw [([100,101,102,103,104,106,107,108,110,111,112,113,114,115],[false,false,false,false,false],[]),([100,101,102,103,104,105,107,108,110,111,112,113,114,115],[false,false,false,false,false,false],[]),([100,101,102,103,104,105,106,110,111,112,113,114,115],[false,false,false,false,false,false,false],[]),([100,101,102,103,104,105,106,110,111,112,113,114,115],[false,false,false,false,false,false,false,true],[])] 7 9 ?_
         refine dC [100,110,111,112,113,114,115] [false,true,true,true,true,true,true,true,true] [] [] ?_
         refine cd (qdb) ?_
         refine dB [([100,101,102,103,104,105,106,107,108,109,112],[false,false,false,false,false,false,false,false,false,false],[]),([100,101,102,103,104,105,106,107,108,109,112],[false,false,false,false,false,false,false,false,false,false,true],[]),([100,101,102,103,104,105,106,107,108,109,110,111],[false,false,false,false,false,false,false,false,false,false,false,false],[]),([100,101,102,103,104,105,106,107,108,109],[false,false,false,false,false,false,false,false,false,false,true,true,true],[]),([100,101,102,103,104,105,106,107,108,109],[false,false,false,false,false,false,false,false,false,false,true,true,true,true],[]),([100,101,102,103,104,105,106,107,108,109],[false,false,false,false,false,false,false,false,false,false,true,true,true,true,true],[])] 0 16 ?_
         refine dD ?_
         refine oC [(10000,9000)] ?_
         refine ct (qk2) ?_
         refine WOps.endK ?_
         refine hK14 _ ?_
         clear hK14 K14
         refine rEw ?_
         refine ⟨d+1,lf ?_ ?_,v0,v0⟩
         ·
          exact v1
         ·
          try (simp [Fx.get F])
          all_goals (
           first
           | rfl
           | (rw [show b.mas.length+(s+1) * dd b=b.mas.length+s * dd b+1+d by have:(d:Int)=b.days:=(by omega);have:dd b=d+1:=(by unfold dd;omega);omega])
           | (rw [fwU,qKU,show v=n by omega])
           | (rw [fwM,qKM,show u=n by omega])
           | (simp;done)
          )
        ·
         try simp at hc6
         replace F:=F.add hc6
         refine W.exit ?_
         refine hK12 _ ?_
         clear hK13 K13 hK12 K12
         refine rEw ?_
         refine ⟨s+1,lf ?_ ?_,v0,v0⟩
         ·
          exact v1
         ·
          try (simp [Fx.get F])
          all_goals (
           first
           | rfl
           | (rw [show b.mas.length+(s+1) * dd b=b.mas.length+s * dd b+1+d by have:(d:Int)=b.days:=(by omega);have:dd b=d+1:=(by unfold dd;omega);omega])
           | (rw [fwU,qKU,show v=n by omega])
           | (rw [fwM,qKM,show u=n by omega])
           | (simp;done)
          )
      ·
       try simp at hc5
       replace F:=F.add hc5
       refine W.exit ?_
       refine hK10 _ ?_
       clear hK11 K11 hK10 K10
       refine W.seqk fun K15 hK15=>?_
       refine rK [1,2,4,6,7,14] ?_
       refine W.block ?_
       have hse:s=b.scl.length:=by omega
       have qbe:baseK b (b.mas.length+s * dd b)=useK b use 0:=by rw [useK,List.range_zero,hse];show _=apAll (baseK b (sizeB b-1)) [];rw [qn,show n-1=b.mas.length+b.scl.length * dd b by omega];rfl
       replace F:=F.add hse
       refine lp (α:=Nat) [1,2,4,6,7] [15,120,136,139,142] [9000] (fun i=>[(14,I i)]) (fun i=>[(9000,gK n (useK b use i))]) (fun i=>i≤b.wei.length) (fun i=>b.wei.length-i) 0 ?_ ?_ ?_ ?_
       ·
        exact v1
       ·
        try (simp [Fx.get F])
        all_goals (
         rw [←qbe,hse]
        )
       ·
        first
        | exact ⟨Nat.zero_le _,IsF.nil n⟩
        | exact ⟨Nat.zero_le _,List.length_replicate,fun j hj=>by rw [if_neg (Nat.not_lt_zero _)];exact nthI_rep⟩
        | exact ⟨Nat.zero_le _,fun j hj=>absurd hj (Nat.not_lt_zero _)⟩
        | omega
       ·
        intro i hI5
        simp only [List.cons_append,List.nil_append]
        try dsimp only at hI5
        replace F:=F.add hI5
        refine W.seqk fun K16 hK16=>?_
        refine rK [1,2,4,6,7,14,121] ?_
        refine it (fun hc7=>?_) (fun hc7=>?_)
        ·
         try simp at hc7
         replace F:=F.add hc7
         refine W.skip ?_
         refine hK16 _ ?_
         clear hK16 K16
         refine W.seqk fun K17 hK17=>?_
         refine W.block ?_
         have hiw:i<b.wei.length:=by omega
         have qw:=hv.wei _ (List.getElem_mem hiw)
         obtain ⟨wa,qwa⟩:∃x:Nat,b.wei[i].a=(x:Int):=⟨b.wei[i].a.toNat,by omega⟩
         obtain ⟨wb,qwb⟩:∃x:Nat,b.wei[i].b=(x:Int):=⟨b.wei[i].b.toNat,by omega⟩
         have hwa:=qwa
         have hwb:=qwb
         have hiu:i<use.length:=by omega
         have hiu2:i<b.wei.length+b.tri.length:=by omega
         have hiu3:(i:Int)<(b.wei.length:Int)+(b.tri.length:Int):=by omega
         have qrc:resC b i=⟨1+wa,1+wb,b.wei[i].dif⟩:=by rw [resC,if_pos hiw,nth_get hiw,weiC',qwa,qwb];simp
         replace F:=F.add hiw |>.add hwa |>.add hwb |>.add hiu |>.add hiu2 |>.add hiu3
         refine rK [1,2,4,6,7,14,15] ?_
         by_cases hui:use[i]=true
         ·
          replace F:=F.add hui
          have qk:=use_next hv (use:=use) hiu2 qrc (by rw [nth_get hiu];exact hui)
          rw [qn] at qk
          refine rK [1,2,4,6,7,14,15,132] ?_
          refine cT ?_
          refine wDe 9 [] [[],[],[1],[1,2],[],[4],[2,1,3,4,5],[],[7],[7,8,5,4,6,2,1,3,0]] ?_
          refine dB [([134,135,136,137,138,139,140,141],[],[]),([133,137,138,140,141],[false],[]),([133,137,138,140,141],[false,true],[])] 6 3 ?_
          refine dC [133,137,138,140,141] [false,true,true] [] [] ?_
          refine cd (rmass_ok wa (by omega)) ?_
          refine dB [([133,134,135,136,140,141],[false,false,false,false],[]),([133,134,135,136,140,141],[false,false,false,false,true],[])] 3 6 ?_
          refine dC [133,140,141] [false,true,true,true,true,true] [] [] ?_
          refine cd (rmass_ok wb (by omega)) ?_
          refine dB [([133,134,135,136,137,138,139],[false,false,false,false,false,false,false],[]),([133,134,135,136,137,138,139],[false,false,false,false,false,false,false,true],[])] 0 9 ?_
          refine dD ?_
          refine oC [(10000,9000)] ?_
          refine ct (qk) ?_
          refine WOps.endK ?_
          refine hK17 _ ?_
          clear hK17 K17
          refine rEw ?_
          refine ⟨i+1,lf ?_ ?_,v0,v0⟩
          ·
           exact v1
          ·
           try (simp [Fx.get F])
           all_goals (
            first
            | rfl
            | (rw [show b.mas.length+(s+1) * dd b=b.mas.length+s * dd b+1+d by have:(d:Int)=b.days:=(by omega);have:dd b=d+1:=(by unfold dd;omega);omega])
            | (rw [fwU,qKU,show v=n by omega])
            | (rw [fwM,qKM,show u=n by omega])
            | (simp;done)
           )
         ·
          replace F:=F.add hui
          have qus:useK b use (i+1)=useK b use i:=by rw [useK_succ,if_neg (by rw [nth_get hiu];exact hui)]
          refine rK [1,2,4,6,7,14,15,132] ?_
          refine cF ?_
          refine W.skip ?_
          refine hK17 _ ?_
          clear hK17 K17
          refine rEw ?_
          refine ⟨i+1,lf ?_ ?_,v0,v0⟩
          ·
           exact v1
          ·
           try (simp [Fx.get F])
           all_goals (
            rw [qus]
           )
        ·
         try simp at hc7
         replace F:=F.add hc7
         refine W.exit ?_
         refine hK15 _ ?_
         clear hK16 K16 hK15 K15
         refine W.seqk fun K18 hK18=>?_
         refine rK [1,2,4,6,7,16] ?_
         refine W.block ?_
         have hie2:i=b.wei.length:=by omega
         replace F:=F.add hie2
         refine lp (α:=Nat) [1,2,4,6,7] [17,146,158,176,182,186] [9000] (fun j=>[(16,I j)]) (fun j=>[(9000,gK n (useK b use (b.wei.length+j)))]) (fun j=>j≤b.tri.length) (fun j=>b.tri.length-j) 0 ?_ ?_ ?_ ?_
         ·
          exact v1
         ·
          try (simp [Fx.get F])
          all_goals (
           first
           | rfl
           | (rw [qTn,←qn];rfl)
           | (rw [qK0];rfl)
           | (rw [hie];simp;done)
           | (rw [hje,qK0];rfl)
           | trivial
          )
         ·
          first
          | exact ⟨Nat.zero_le _,IsF.nil n⟩
          | exact ⟨Nat.zero_le _,List.length_replicate,fun j hj=>by rw [if_neg (Nat.not_lt_zero _)];exact nthI_rep⟩
          | exact ⟨Nat.zero_le _,fun j hj=>absurd hj (Nat.not_lt_zero _)⟩
          | omega
         ·
          intro j hI6
          simp only [List.cons_append,List.nil_append]
          try dsimp only at hI6
          replace F:=F.add hI6
          refine W.seqk fun K19 hK19=>?_
          refine rK [1,2,4,6,7,16,147] ?_
          refine it (fun hc10=>?_) (fun hc10=>?_)
          ·
           try simp at hc10
           replace F:=F.add hc10
           refine W.skip ?_
           refine hK19 _ ?_
           clear hK19 K19
           refine W.seqk fun K20 hK20=>?_
           refine W.block ?_
           have hjt:j<b.tri.length:=by omega
           have qt:=hv.tri _ (List.getElem_mem hjt)
           obtain ⟨s2,qs⟩:∃x:Nat,b.tri[j].sc=(x:Int):=⟨b.tri[j].sc.toNat,by omega⟩
           obtain ⟨d2,qdd2⟩:∃x:Nat,b.tri[j].day=(x:Int):=⟨b.tri[j].day.toNat,by omega⟩
           obtain ⟨m,qm⟩:∃x:Nat,b.tri[j].ms=(x:Int):=⟨b.tri[j].ms.toNat,by omega⟩
           have hss:=qs
           have hsd2:=qdd2
           have hsm:=qm
           have hmm:m<b.mas.length:=by omega
           have qnm:=hv.mas _ (List.getElem_mem hmm)
           obtain ⟨nm,qnn⟩:∃z,b.mas[m].nom=z:=⟨_,rfl⟩
           have hnm:=qnn
           rw [qnn] at qnm
           obtain ⟨sh,qsh⟩:∃z,b.tri[j].sh=z:=⟨_,rfl⟩
           have hsh:=qsh
           rw [qsh] at qt
           have hwr:IntKind.i64.wrap (sh-nm)=sh-nm:=wrap_i64 (by omega) (by omega)
           have hju:b.wei.length+j<use.length:=by omega
           have hju2:b.wei.length+j<b.wei.length+b.tri.length:=by omega
           have hju3:(b.wei.length:Int)+(j:Int)<(b.wei.length:Int)+(b.tri.length:Int):=by omega
           have hju4:(0:Int)≤(b.wei.length:Int)+(j:Int):=by omega
           have qjn:((b.wei.length:Int)+(j:Int)).toNat=b.wei.length+j:=by omega
           have hjn:=qjn
           have qrc:resC b (b.wei.length+j)=⟨1+m,dayN b s2 d2,⟨sh-nm,sh-nm⟩⟩:=by
             rw [resC,if_neg (by omega),show b.wei.length+j-b.wei.length=j by omega,nth_get hjt,triC',qs,qdd2,qm,qsh]
             simp only [Int.toNat_natCast]
             rw [nth_get hmm,qnn]
           have h3:=hv.s3
           have qdc:=mistake_ok b (by omega) qd s2 d2 (by omega) (by omega)
           replace F:=F.add hjt |>.add hss |>.add hsd2 |>.add hsm |>.add hmm |>.add hnm |>.add hsh |>.add hwr |>.add hju |>.add hju2 |>.add hju3 |>.add hju4 |>.add hjn |>.add h3
           refine rK [1,2,4,6,7,16,17] ?_
           by_cases huj:use[b.wei.length+j]=true
           ·
            replace F:=F.add huj
            have qk:=use_next hv (use:=use) hju2 qrc (by rw [nth_get hju];exact huj)
            rw [qn] at qk
            refine rKw [1,2,4,6,7,16,17,162] ?_
            refine cT ?_
            refine wD 9 [] [[],[0],[],[2],[],[4],[4,5,2,3],[3,2,5,4,6],[6,4,5,2,3,7],[7,3,2,5,4,6,8,0,1],[1,0,8,6,4,5,2,3,7,9]] ?_
            refine dB [([165,166,167,168,169,170,171],[],[]),([165,166,167,168,169,170,171],[true],[]),([163,164,167,168],[false,false],[]),([163,164,167,168],[false,false,true],[]),([163,164,165,166],[false,false,false,false],[]),([163,164,165,166],[false,false,false,false,true],[]),([163,164],[false,false,true,true,true,true],[]),([163,164],[false,false,true,true,true,true,true],[]),([163,164],[false,false,true,true,true,true,true,true],[])] 0 9 ?_
            refine dD ?_
            refine oN 2 ?_
            refine oK [1,2,4,6,7,16,17,18] ?_
            refine wDe 13 [] [[],[],[1],[1,2],[],[],[5],[],[7],[2,1,3,7,8,5,6,4],[],[],[11,10],[10,11,12,4,6,5,8,7,9,2,1,3,0]] ?_
            refine dB [([174,175,176,177,178,179,180,181,182,183,184,185],[],[]),([173,177,178,179,180,181,183,184,185],[false],[]),([173,177,178,179,180,181,183,184,185],[false,true],[])] 10 3 ?_
            refine dC [173,177,178,179,180,181,183,184,185] [false,true,true] [] [] ?_
            refine cd (rmass_ok m (by omega)) ?_
            refine dB [([173,174,175,176,178,179,180,181,183,184,185],[false,false,false,false],[]),([173,174,175,176,177,180,181,183,184,185],[false,false,false,false,false],[]),([173,174,175,176,177,180,181,183,184,185],[false,false,false,false,false,true],[]),([173,174,175,176,177,178,179,183,184,185],[false,false,false,false,false,false,false],[]),([173,174,175,176,177,178,179,183,184,185],[false,false,false,false,false,false,false,true],[])] 4 9 ?_
            refine dC [173,183,184,185] [false,true,true,true,true,true,true,true,true] [] [] ?_
            refine cd (qdc) ?_
            refine dB [([173,174,175,176,177,178,179,180,181,182,184],[false,false,false,false,false,false,false,false,false,false],[]),([173,174,175,176,177,178,179,180,181,182,183],[false,false,false,false,false,false,false,false,false,false,false],[]),([173,174,175,176,177,178,179,180,181,182],[false,false,false,false,false,false,false,false,false,false,true,true],[])] 0 13 ?_
            refine dD ?_
            refine oC [(10000,9000)] ?_
            refine ct (qk) ?_
            refine WOps.endK ?_
            refine hK20 _ ?_
            clear hK20 K20
            refine rEw ?_
            refine ⟨j+1,lf ?_ ?_,v0,v0⟩
            ·
             exact v1
            ·
             try (simp [Fx.get F])
             all_goals (
              first
              | rfl
              | (rw [show b.mas.length+(s+1) * dd b=b.mas.length+s * dd b+1+d by have:(d:Int)=b.days:=(by omega);have:dd b=d+1:=(by unfold dd;omega);omega])
              | (rw [fwU,qKU,show v=n by omega])
              | (rw [fwM,qKM,show u=n by omega])
              | (simp;done)
             )
           ·
            replace F:=F.add huj
            have qus:useK b use (b.wei.length+(j+1))=useK b use (b.wei.length+j):=by rw [show b.wei.length+(j+1)=b.wei.length+j+1 by omega,useK_succ,if_neg (by rw [nth_get hju];exact huj)]
            refine rKw [1,2,4,6,7,16,17,162] ?_
            refine cF ?_
            refine W.skip ?_
            refine hK20 _ ?_
            clear hK20 K20
            refine rEw ?_
            refine ⟨j+1,lf ?_ ?_,v0,v0⟩
            ·
             exact v1
            ·
             try (simp [Fx.get F])
             all_goals (
              rw [qus]
             )
          ·
           try simp at hc10
           replace F:=F.add hc10
           refine W.exit ?_
           refine hK18 _ ?_
           clear hK19 K19 hK18 K18
           refine W.seqk fun K21 hK21=>?_
           refine rK [4,6,7,19] ?_
           refine W.block ?_
           have hje:j=b.tri.length:=by omega
           obtain ⟨K0,qK0⟩:∃K,useK b use (b.wei.length+b.tri.length)=K:=⟨_,rfl⟩
           have qs0:SqK n K0:=by rw [←qK0,←qn];exact useK_sq hv use _ (Nat.le_refl _)
           have qL:learnK b use=fwM n K0 n:=by rw [learnK,qn,qK0]
           replace F:=F.add hje
           refine lp (α:=Nat) [4,6,7] [233] [9000] (fun m=>[(19,I m)]) (fun m=>[(9000,gK n (fwM n K0 m))]) (fun m=>m≤n) (fun m=>n-m) 0 ?_ ?_ ?_ ?_
           ·
            exact v1
           ·
            try (simp [Fx.get F])
            all_goals (
             first
             | rfl
             | (rw [qTn,←qn];rfl)
             | (rw [qK0];rfl)
             | (rw [hie];simp;done)
             | (rw [hje,qK0];rfl)
             | trivial
            )
           ·
            first
            | exact ⟨Nat.zero_le _,IsF.nil n⟩
            | exact ⟨Nat.zero_le _,List.length_replicate,fun j hj=>by rw [if_neg (Nat.not_lt_zero _)];exact nthI_rep⟩
            | exact ⟨Nat.zero_le _,fun j hj=>absurd hj (Nat.not_lt_zero _)⟩
            | omega
           ·
            intro m hI7
            simp only [List.cons_append,List.nil_append]
            try dsimp only at hI7
            replace F:=F.add hI7
            refine W.seqk fun K22 hK22=>?_
            refine rK [4,6,7,19,189] ?_
            refine it (fun hc13=>?_) (fun hc13=>?_)
            ·
             try simp at hc13
             replace F:=F.add hc13
             refine W.skip ?_
             refine hK22 _ ?_
             clear hK22 K22
             refine W.seqk fun K23 hK23=>?_
             refine W.block ?_
             have hmn:m<n:=by omega
             obtain ⟨KM,qKM⟩:∃K,fwM n K0 m=K:=⟨_,rfl⟩
             have hKM:=qKM
             have qsM:SqK n KM:=by rw [←qKM];exact fwM_sq qs0 m
             replace F:=F.add hmn |>.add hKM
             refine rK [4,6,7,19,20] ?_
             refine W.block ?_
             refine lp (α:=Nat) [4,6,7,19] [233] [9000] (fun u=>[(20,I u)]) (fun u=>[(9000,gK n (fwU n m KM u))]) (fun u=>u≤n) (fun u=>n-u) 0 ?_ ?_ ?_ ?_
             ·
              exact v1
             ·
              try (simp [Fx.get F])
              all_goals (
               first
               | rfl
               | (rw [qTn,←qn];rfl)
               | (rw [qK0];rfl)
               | (rw [hie];simp;done)
               | (rw [hje,qK0];rfl)
               | trivial
              )
             ·
              first
              | exact ⟨Nat.zero_le _,IsF.nil n⟩
              | exact ⟨Nat.zero_le _,List.length_replicate,fun j hj=>by rw [if_neg (Nat.not_lt_zero _)];exact nthI_rep⟩
              | exact ⟨Nat.zero_le _,fun j hj=>absurd hj (Nat.not_lt_zero _)⟩
              | omega
             ·
              intro u hI8
              simp only [List.cons_append,List.nil_append]
              try dsimp only at hI8
              replace F:=F.add hI8
              refine W.seqk fun K24 hK24=>?_
              refine rK [4,6,7,19,20,194] ?_
              refine it (fun hc14=>?_) (fun hc14=>?_)
              ·
               try simp at hc14
               replace F:=F.add hc14
               refine W.skip ?_
               refine hK24 _ ?_
               clear hK24 K24
               refine W.seqk fun K25 hK25=>?_
               refine W.block ?_
               have hun:u<n:=by omega
               obtain ⟨KU,qKU⟩:∃K,fwU n m KM u=K:=⟨_,rfl⟩
               have hKU:=qKU
               have qsU:SqK n KU:=by rw [←qKU];exact fwU_sq qsM u (by omega)
               replace F:=F.add hun |>.add hKU
               refine rK [4,6,7,19,20,21] ?_
               refine W.block ?_
               refine lp (α:=Nat) [4,6,7,19,20] [233] [9000] (fun v=>[(21,I v)]) (fun v=>[(9000,gK n (fwV m u KU v))]) (fun v=>v≤n) (fun v=>n-v) 0 ?_ ?_ ?_ ?_
               ·
                exact v1
               ·
                try (simp [Fx.get F])
                all_goals (
                 first
                 | rfl
                 | (rw [qTn,←qn];rfl)
                 | (rw [qK0];rfl)
                 | (rw [hie];simp;done)
                 | (rw [hje,qK0];rfl)
                 | trivial
                )
               ·
                first
                | exact ⟨Nat.zero_le _,IsF.nil n⟩
                | exact ⟨Nat.zero_le _,List.length_replicate,fun j hj=>by rw [if_neg (Nat.not_lt_zero _)];exact nthI_rep⟩
                | exact ⟨Nat.zero_le _,fun j hj=>absurd hj (Nat.not_lt_zero _)⟩
                | omega
               ·
                intro v hI9
                simp only [List.cons_append,List.nil_append]
                try dsimp only at hI9
                replace F:=F.add hI9
                refine W.seqk fun K26 hK26=>?_
                refine rK [4,6,7,19,20,21,199] ?_
                refine it (fun hc15=>?_) (fun hc15=>?_)
                ·
                 try simp at hc15
                 replace F:=F.add hc15
                 refine W.skip ?_
                 refine hK26 _ ?_
                 clear hK26 K26
                 refine W.seqk fun K27 hK27=>?_
                 refine W.block ?_
                 have hvn:v<n:=by omega
                 obtain ⟨KV,qKV⟩:∃K,fwV m u KU v=K:=⟨_,rfl⟩
                 have hKV:=qKV
                 have qsV:SqK n KV:=by rw [←qKV];exact fwV_sq qsU hun v
                 have hVl:KV.length=n:=qsV.1
                 have hVu:(KV[u]'(by omega)).length=n:=qsV.row (by omega)
                 have hVm:(KV[m]'(by omega)).length=n:=qsV.row (by omega)
                 obtain ⟨x0,qx0⟩:∃x,at1 KV u v=x:=⟨_,rfl⟩
                 obtain ⟨x1,qx1⟩:∃x,at1 KV u m=x:=⟨_,rfl⟩
                 obtain ⟨x2,qx2⟩:∃x,at1 KV m v=x:=⟨_,rfl⟩
                 have hx0:(KV[u]'(by omega))[v]'(by omega)=x0:=by rw [←at1_get];exact qx0
                 have hx1:(KV[u]'(by omega))[m]'(by omega)=x1:=by rw [←at1_get];exact qx1
                 have hx2:(KV[m]'(by omega))[v]'(by omega)=x2:=by rw [←at1_get];exact qx2
                 have hst:KV.set u ((KV[u]'(by omega)).set v (min x0 (IntKind.i64.wrap (x1+x2))))=fwV m u KU (v+1):=by
                   rw [fwV,qKV,fwS,qx0,qx1,qx2,setK_get (by omega)]
                 replace F:=F.add hvn |>.add hKV |>.add hVl |>.add hVu |>.add hVm |>.add hx0 |>.add hx1 |>.add hx2 |>.add hst
                 refine wDe 32 [] [[],[0],[],[2,0,1],[1,0,2,3],[],[],[6],[],[8,6,7],[7,6,8,9],[],[11,9,8,6,7,10],[10,7,6,8,9,11,12],[],[14],[],[16,14,15],[15,14,16,17],[],[19,17,16,14,15,18],[18,15,14,16,17,19,20],[],[22],[],[24,22,23],[23,22,24,25],[],[27,25,24,22,23,26],[26,23,22,24,25,27,28],[28,27,25,24,22,23,26,29,20,19,17,16,14,15,18,21],[21,18,15,14,16,17,19,20,29,26,23,22,24,25,27,28,30,12,11,9,8,6,7,10,13],[31,30,29,28,27,26,25,24,23,22,21,20,19,18,17,16,15,14,13,12,11,10,9,8,7,6,5,3,2,0,1,4],[4,1,0,2,3,5,6,7,8,9,10,11,12,13,14,15,16,17,18,19,20,21,22,23,24,25,26,27,28,29,30,31,32]] ?_
                 refine dB [([204,207,208,209,210,211,212,213,214,215,216,217,218,219,220,221,222,223,224,225,226,227,228,229,230,231,232,233],[],[]),([204,207,208,209,210,211,212,213,214,215,216,217,218,219,220,221,222,223,224,225,226,227,228,229,230,231,232,233],[true],[]),([202,203,207,208,209,210,211,212,213,214,215,216,217,218,219,220,221,222,223,224,225,226,227,228,229,230,231,232,233],[false,false],[]),([207,208,209,210,211,212,213,214,215,216,217,218,219,220,221,222,223,224,225,226,227,228,229,230,231,232,233],[true,true,true],[]),([207,208,209,210,211,212,213,214,215,216,217,218,219,220,221,222,223,224,225,226,227,228,229,230,231,232,233],[true,true,true,true],[]),([202,203,204,205,206,208,209,210,211,212,213,214,215,216,217,218,219,220,221,222,223,224,225,226,227,228,229,230,231,232,233],[false,false,false,false,false],[]),([202,203,204,205,206,207,210,213,216,217,218,219,220,221,222,223,224,225,226,227,228,229,230,231,232],[false,false,false,false,false,false],[]),([202,203,204,205,206,207,210,213,216,217,218,219,220,221,222,223,224,225,226,227,228,229,230,231,232],[false,false,false,false,false,false,true],[]),([202,203,204,205,206,207,208,209,213,216,217,218,219,220,221,222,223,224,225,226,227,228,229,230,231,232],[false,false,false,false,false,false,false,false],[]),([202,203,204,205,206,207,213,216,217,218,219,220,221,222,223,224,225,226,227,228,229,230,231,232],[false,false,false,false,false,false,true,true,true],[]),([202,203,204,205,206,207,213,216,217,218,219,220,221,222,223,224,225,226,227,228,229,230,231,232],[false,false,false,false,false,false,true,true,true,true],[]),([202,203,204,205,206,207,208,209,210,211,212,216,217,218,219,220,221,222,223,224,225,226,227,228,229,230,231,232],[false,false,false,false,false,false,false,false,false,false,false],[]),([202,203,204,205,206,207,216,217,218,219,220,221,222,223,224,225,226,227,228,229,230,231,232],[false,false,false,false,false,false,true,true,true,true,true,true],[]),([202,203,204,205,206,207,216,217,218,219,220,221,222,223,224,225,226,227,228,229,230,231,232],[false,false,false,false,false,false,true,true,true,true,true,true,true],[]),([202,203,204,205,206,207,208,209,210,211,212,213,214,215,218,221,224,225,226,227,228,229,230,231],[false,false,false,false,false,false,false,false,false,false,false,false,false,false],[]),([202,203,204,205,206,207,208,209,210,211,212,213,214,215,218,221,224,225,226,227,228,229,230,231],[false,false,false,false,false,false,false,false,false,false,false,false,false,false,true],[]),([202,203,204,205,206,207,208,209,210,211,212,213,214,215,216,217,221,224,225,226,227,228,229,230,231],[false,false,false,false,false,false,false,false,false,false,false,false,false,false,false,false],[]),([202,203,204,205,206,207,208,209,210,211,212,213,214,215,221,224,225,226,227,228,229,230,231],[false,false,false,false,false,false,false,false,false,false,false,false,false,false,true,true,true],[]),([202,203,204,205,206,207,208,209,210,211,212,213,214,215,221,224,225,226,227,228,229,230,231],[false,false,false,false,false,false,false,false,false,false,false,false,false,false,true,true,true,true],[]),([202,203,204,205,206,207,208,209,210,211,212,213,214,215,216,217,218,219,220,224,225,226,227,228,229,230,231],[false,false,false,false,false,false,false,false,false,false,false,false,false,false,false,false,false,false,false],[]),([202,203,204,205,206,207,208,209,210,211,212,213,214,215,224,225,226,227,228,229,230,231],[false,false,false,false,false,false,false,false,false,false,false,false,false,false,true,true,true,true,true,true],[]),([202,203,204,205,206,207,208,209,210,211,212,213,214,215,224,225,226,227,228,229,230,231],[false,false,false,false,false,false,false,false,false,false,false,false,false,false,true,true,true,true,true,true,true],[]),([202,203,204,205,206,207,208,209,210,211,212,213,214,215,216,217,218,219,220,221,222,223,226,229],[false,false,false,false,false,false,false,false,false,false,false,false,false,false,false,false,false,false,false,false,false,false],[]),([202,203,204,205,206,207,208,209,210,211,212,213,214,215,216,217,218,219,220,221,222,223,226,229],[false,false,false,false,false,false,false,false,false,false,false,false,false,false,false,false,false,false,false,false,false,false,true],[]),([202,203,204,205,206,207,208,209,210,211,212,213,214,215,216,217,218,219,220,221,222,223,224,225,229],[false,false,false,false,false,false,false,false,false,false,false,false,false,false,false,false,false,false,false,false,false,false,false,false],[]),([202,203,204,205,206,207,208,209,210,211,212,213,214,215,216,217,218,219,220,221,222,223,229],[false,false,false,false,false,false,false,false,false,false,false,false,false,false,false,false,false,false,false,false,false,false,true,true,true],[]),([202,203,204,205,206,207,208,209,210,211,212,213,214,215,216,217,218,219,220,221,222,223,229],[false,false,false,false,false,false,false,false,false,false,false,false,false,false,false,false,false,false,false,false,false,false,true,true,true,true],[]),([202,203,204,205,206,207,208,209,210,211,212,213,214,215,216,217,218,219,220,221,222,223,224,225,226,227,228],[false,false,false,false,false,false,false,false,false,false,false,false,false,false,false,false,false,false,false,false,false,false,false,false,false,false,false],[]),([202,203,204,205,206,207,208,209,210,211,212,213,214,215,216,217,218,219,220,221,222,223],[false,false,false,false,false,false,false,false,false,false,false,false,false,false,false,false,false,false,false,false,false,false,true,true,true,true,true,true],[]),([202,203,204,205,206,207,208,209,210,211,212,213,214,215,216,217,218,219,220,221,222,223],[false,false,false,false,false,false,false,false,false,false,false,false,false,false,false,false,false,false,false,false,false,false,true,true,true,true,true,true,true],[]),([202,203,204,205,206,207,208,209,210,211,212,213,214,215],[false,false,false,false,false,false,false,false,false,false,false,false,false,false,true,true,true,true,true,true,true,true,true,true,true,true,true,true,true,true],[]),([202,203,204,205,206,207],[false,false,false,false,false,false,true,true,true,true,true,true,true,true,true,true,true,true,true,true,true,true,true,true,true,true,true,true,true,true,true],[])] 0 32 ?_
                 refine dD ?_
                 refine oN 2 ?_
                 refine WOps.endK ?_
                 refine hK27 _ ?_
                 clear hK27 K27
                 refine rEw ?_
                 refine ⟨v+1,lf ?_ ?_,v0,v0⟩
                 ·
                  exact v1
                 ·
                  try (simp [Fx.get F])
                  all_goals (
                   first
                   | rfl
                   | (rw [show b.mas.length+(s+1) * dd b=b.mas.length+s * dd b+1+d by have:(d:Int)=b.days:=(by omega);have:dd b=d+1:=(by unfold dd;omega);omega])
                   | (rw [fwU,qKU,show v=n by omega])
                   | (rw [fwM,qKM,show u=n by omega])
                   | (simp;done)
                  )
                ·
                 try simp at hc15
                 replace F:=F.add hc15
                 refine W.exit ?_
                 refine hK25 _ ?_
                 clear hK26 K26 hK25 K25
                 refine rEw ?_
                 refine ⟨u+1,lf ?_ ?_,v0,v0⟩
                 ·
                  exact v1
                 ·
                  try (simp [Fx.get F])
                  all_goals (
                   first
                   | rfl
                   | (rw [show b.mas.length+(s+1) * dd b=b.mas.length+s * dd b+1+d by have:(d:Int)=b.days:=(by omega);have:dd b=d+1:=(by unfold dd;omega);omega])
                   | (rw [fwU,qKU,show v=n by omega])
                   | (rw [fwM,qKM,show u=n by omega])
                   | (simp;done)
                  )
              ·
               try simp at hc14
               replace F:=F.add hc14
               refine W.exit ?_
               refine hK23 _ ?_
               clear hK24 K24 hK23 K23
               refine rEw ?_
               refine ⟨m+1,lf ?_ ?_,v0,v0⟩
               ·
                exact v1
               ·
                try (simp [Fx.get F])
                all_goals (
                 first
                 | rfl
                 | (rw [show b.mas.length+(s+1) * dd b=b.mas.length+s * dd b+1+d by have:(d:Int)=b.days:=(by omega);have:dd b=d+1:=(by unfold dd;omega);omega])
                 | (rw [fwU,qKU,show v=n by omega])
                 | (rw [fwM,qKM,show u=n by omega])
                 | (simp;done)
                )
            ·
             try simp at hc13
             replace F:=F.add hc13
             refine W.exit ?_
             refine hK21 _ ?_
             clear hK22 K22 hK21 K21
             refine W.seqk fun K28 hK28=>?_
             refine rK [4,6,7,22] ?_
             refine W.block ?_
             have hme:m=n:=by omega
             obtain ⟨KL,qKL⟩:∃K,fwM n K0 n=K:=⟨_,rfl⟩
             have qsL:SqK n KL:=by rw [←qKL];exact fwM_sq qs0 n
             have hKL:fwM n K0 n=KL:=qKL
             have hLl:KL.length=n:=qsL.1
             have hKt:KL.take n=KL:=List.take_of_length_le (by omega)
             replace F:=F.add hme |>.add hKL |>.add hLl |>.add hKt
             refine lp (α:=Nat) [4,6,7] [] [] (fun u=>[(22,I u)]) (fun u=>[]) (fun u=>u≤n∧∀j,j<u→0≤at1 KL j j) (fun u=>n-u) 0 ?_ ?_ ?_ ?_
             ·
              exact v1
             ·
              try (simp [Fx.get F])
              all_goals (
               first
               | rfl
               | (rw [qTn,←qn];rfl)
               | (rw [qK0];rfl)
               | (rw [hie];simp;done)
               | (rw [hje,qK0];rfl)
               | trivial
              )
             ·
              first
              | exact ⟨Nat.zero_le _,IsF.nil n⟩
              | exact ⟨Nat.zero_le _,List.length_replicate,fun j hj=>by rw [if_neg (Nat.not_lt_zero _)];exact nthI_rep⟩
              | exact ⟨Nat.zero_le _,fun j hj=>absurd hj (Nat.not_lt_zero _)⟩
              | omega
             ·
              intro u hI10
              simp only [List.cons_append,List.nil_append]
              try dsimp only at hI10
              obtain ⟨hu2,kd⟩:=hI10
              replace F:=F.add hu2
              refine W.seqk fun K29 hK29=>?_
              refine rK [4,6,7,22,237] ?_
              refine it (fun hc16=>?_) (fun hc16=>?_)
              ·
               try simp at hc16
               replace F:=F.add hc16
               refine W.skip ?_
               refine hK29 _ ?_
               clear hK29 K29
               refine W.seqk fun K30 hK30=>?_
               refine W.block ?_
               have hun:u<n:=by omega
               have hLu:(KL[u]'(by omega)).length=n:=qsL.row (by omega)
               obtain ⟨x,qx⟩:∃x,at1 KL u u=x:=⟨_,rfl⟩
               have hx:(KL[u]'(by omega))[u]'(by omega)=x:=by rw [←at1_get];exact qx
               replace F:=F.add hun |>.add hLu |>.add hx
               refine rK [4,6,7,22,248] ?_
               refine it (fun hc17=>?_) (fun hc17=>?_)
               ·
                try simp at hc17
                replace F:=F.add hc17
                refine W.seqR ?_
                refine oN 1 ?_
                refine fz 9000 ?_
                refine oN 2 ?_
                refine oK [4,5] ?_
                refine W.ret ?_
                refine br (tr (tr (br (tr ?_))))
                clear hK30 K30 hK28 K28
                refine er false [] [] ?_
                rw [qL,qKL,show learnB b use=false from decide_eq_false fun h=>absurd (h u (by rw [qn];exact hun)) (by rw [qL,qKL];omega)];exact ⟨rfl,rfl⟩
               ·
                try simp at hc17
                replace F:=F.add hc17
                refine W.skip ?_
                refine hK30 _ ?_
                clear hK30 K30
                refine rEw ?_
                refine ⟨u+1,lf ?_ ?_, ?_,v0⟩
                ·
                 exact v1
                ·
                 try (simp [Fx.get F])
                 all_goals (
                  first
                  | rfl
                  | (rw [show b.mas.length+(s+1) * dd b=b.mas.length+s * dd b+1+d by have:(d:Int)=b.days:=(by omega);have:dd b=d+1:=(by unfold dd;omega);omega])
                  | (rw [fwU,qKU,show v=n by omega])
                  | (rw [fwM,qKM,show u=n by omega])
                  | (simp;done)
                 )
                ·
                 refine ⟨hun,fun j hj=>?_⟩
                 by_cases e:j=u
                 · subst e;rw [qx];exact hc17
                 · exact kd j (by omega)
              ·
               try simp at hc16
               replace F:=F.add hc16
               refine W.exit ?_
               refine hK28 _ ?_
               clear hK29 K29 hK28 K28
               refine W.seqR ?_
               refine oN 1 ?_
               refine fz 9000 ?_
               refine oN 2 ?_
               refine oK [4,5] ?_
               refine W.ret ?_
               refine er false [] [] ?_
               rw [qL,qKL,show learnB b use=true from decide_eq_true fun j hj=>by rw [qL,qKL];exact kd j (by rw [qn] at hj;omega)];exact ⟨rfl,rfl⟩
end Go.Sim
