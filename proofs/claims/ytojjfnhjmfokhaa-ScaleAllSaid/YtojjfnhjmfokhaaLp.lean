/- Benches made of numbers. -/
import Derived.Test.YtojjfnhjmfokhaaLo
namespace Go.Sim
set_option maxHeartbeats 4000000
open Go.Proofs
set_option maxRecDepth 100000
set_option linter.unusedSimpArgs false
set_option linter.unusedVariables false
attribute [-simp] List.map_set List.map_take List.map_drop
attribute [simp] spn_eta
structure Fac where
  offs:List Int
  errs:List (List Int)
abbrev facV (f:Fac):AV:=.agg [ints f.offs,.imm (f.errs.map ints)]
instance:NthD (List Int):=⟨[]⟩
theorem len_snoc {α:Type}{l:List α}{x:α}:(l++[x]).length=l.length+1:=by simp
theorem nth_snoc_lt {α:Type} [NthD α] {l:List α}{x:α}{i:Nat}(h:i<l.length):nth (l++[x]) i=nth l i:=by
  rw [nth_get (by rw [len_snoc];omega),nth_get h,List.getElem_append_left]
theorem nth_snoc_eq {α:Type} [NthD α] {l:List α}{x:α}:nth (l++[x]) l.length=x:=by
  rw [nth_get (by rw [len_snoc];omega),List.getElem_append_right (Nat.le_refl _)];simp
def Side {α β:Type} [NthD α] [NthD β] (R:α→β→Prop) (l:List α) (m:List β):Prop:=m.length=l.length∧∀i,i<l.length→R (nth l i) (nth m i)
theorem Side.nil {α β:Type} [NthD α] [NthD β] {R:α→β→Prop}:Side R [] []:=⟨rfl,fun i h=>by cases h⟩
theorem Side.snoc {α β:Type} [NthD α] [NthD β] {R:α→β→Prop}{l:List α}{m:List β}(h:Side R l m){x:α}{y:β}(hr:R x y):Side R (l++[x]) (m++[y]):=by
  refine ⟨by rw [len_snoc,len_snoc,h.1],fun i hi=>?_⟩
  rw [len_snoc] at hi
  by_cases e:i<l.length
  · rw [nth_snoc_lt e,nth_snoc_lt (by rw [h.1];exact e)];exact h.2 i e
  · obtain rfl:i=l.length:=by omega
    rw [nth_snoc_eq]
    have:=h.1
    rw [←this,nth_snoc_eq];exact hr
structure MasF (m:Mas) (n:Int):Prop where
  nom:1≤m.nom∧m.nom≤1000
  off : -20≤m.off.lo∧m.off.lo≤m.off.hi∧m.off.hi≤20
  at_:m.off.lo≤n∧n≤m.off.hi
structure SclS (s:Scl):Prop where
  fst : -9≤s.fst.lo∧s.fst.lo≤s.fst.hi∧s.fst.hi≤9
  dri : -2≤s.dri.lo∧s.dri.lo≤s.dri.hi∧s.dri.hi≤3
structure RowF (s:Scl) (k:Nat) (l:List Int):Prop where
  len:l.length=k+1
  fst:s.fst.lo≤nth l 0∧nth l 0≤s.fst.hi
  dri:∀d,d<k→s.dri.lo≤nth l (d+1)-nth l d∧nth l (d+1)-nth l d≤s.dri.hi
theorem RowF.one {s:Scl}{n:Int}(h:s.fst.lo≤n∧n≤s.fst.hi):RowF s 0 [n]:=⟨rfl,h,fun d hd=>by cases hd⟩
theorem RowF.snoc {s:Scl}{k:Nat}{l:List Int}(h:RowF s k l){n:Int}(hn:s.dri.lo≤n∧n≤s.dri.hi):RowF s (k+1) (l++[nth l k+n]):=by
  have hl:=h.len
  refine ⟨by rw [len_snoc,hl], ?_,fun d hd=>?_⟩
  · rw [nth_snoc_lt (by omega)];exact h.fst
  · by_cases e:d<k
    · rw [nth_snoc_lt (by omega),nth_snoc_lt (by omega)];exact h.dri d e
    · obtain rfl:d=k:=by omega
      rw [show d+1=l.length from hl.symm,nth_snoc_eq,nth_snoc_lt (by omega)];omega
theorem RowF.bd {s:Scl}(hs:SclS s){k:Nat}{l:List Int}(h:RowF s k l):∀d,d≤k→-9-2 * (d:Int)≤nth l d∧nth l d≤9+3 * (d:Int)
  | 0,_=>by have:=h.fst;have:=hs.fst;omega
  | d+1,hd=>by
    have h1:=RowF.bd hs h d (by omega)
    have h2:=h.dri d (by omega)
    have h3:=hs.dri
    omega
structure SclF (k:Nat) (s:Scl) (l:List Int):Prop where
  ok:SclS s
  row:RowF s k l
structure WeiS (n:Nat) (w:Wei):Prop where
  a:0≤w.a∧w.a<n
  b:0≤w.b∧w.b<n
  ne:w.a≠w.b
  dif : -50≤w.dif.lo∧w.dif.lo≤w.dif.hi∧w.dif.hi≤50
structure TriS (ns nm:Nat) (days:Int) (t:Tri):Prop where
  sc:0≤t.sc∧t.sc<ns
  day:0≤t.day∧t.day≤days
  ms:0≤t.ms∧t.ms<nm
  sh:0≤t.sh∧t.sh≤2000
structure MadeB (b:Ben) (p q r d:Nat):Prop where
  ok:ValidB b
  mas:b.mas.length≤p
  scl:b.scl.length≤q
  wei:b.wei.length≤r
  tri:b.tri.length≤r
  days:b.days≤d
  small:(∀m∈b.mas, -20≤m.off.lo∧m.off.hi≤20)∧∀s∈b.scl,SclS s
structure FacOk (b:Ben) (f:Fac):Prop where
  offs:Side MasF b.mas f.offs
  errs:Side (SclF b.days.toNat) b.scl f.errs
def weiB (f:Fac) (w:Wei):Bool:=decide (w.dif.lo≤nth f.offs w.a.toNat-nth f.offs w.b.toNat∧nth f.offs w.a.toNat-nth f.offs w.b.toNat≤w.dif.hi)
def triB (b:Ben) (f:Fac) (t:Tri):Bool:=decide (t.sh=(nth b.mas t.ms.toNat).nom+nth f.offs t.ms.toNat+nth (nth f.errs t.sc.toNat) t.day.toNat)
def holdB (b:Ben) (f:Fac):Bool:=b.wei.all (weiB f)&&b.tri.all (triB b f)
theorem Holds_ok (x:Spn) (n:Int):ACalls Try.prog 52 [spnV x,I n] [] (fun r o=>r=B (decide (x.lo≤n∧n≤x.hi))∧o=[]):=by
 have F:=Fx.nil
 refine ent Try.func52 Try.ntmps52 Try.results52 ?_
 refine rK [1,2] ?_
 refine W.seqR ?_
 refine oN 5 ?_
 refine gX ?_
 refine gX ?_
 refine gX ?_
 refine gX ?_
 refine oN 2 ?_
 refine oK [4] ?_
 refine W.ret ?_
 refine er false [] [] ?_
 refine ⟨?_,rfl⟩
 by_cases h1:x.lo≤n<;>by_cases h2:n≤x.hi<;>simp [h1,h2]
theorem all_hit {α:Type}{p:α→Bool}{l:List α}{i:Nat}(h:i<l.length) (hp:p l[i]=true):(l.drop i).all p=(l.drop (i+1)).all p:=by
  rw [List.drop_eq_getElem_cons h,List.all_cons,hp,Bool.true_and]
theorem all_miss {α:Type}{p:α→Bool}{l:List α}{i:Nat}(h:i<l.length) (hp:p l[i]=false):(l.drop i).all p=false:=by
  rw [List.drop_eq_getElem_cons h,List.all_cons,hp,Bool.false_and]
theorem all_end {α:Type}{p:α→Bool}{l:List α}{i:Nat}(h:l.length≤i):(l.drop i).all p=true:=by
  rw [List.drop_of_length_le h];rfl
theorem hold_w {b:Ben}{f:Fac}(h:b.wei.all (weiB f)=false):holdB b f=false:=by unfold holdB;rw [h];rfl
theorem hold_t {b:Ben}{f:Fac}(h:b.tri.all (triB b f)=false):holdB b f=false:=by unfold holdB;rw [h,Bool.and_false]
theorem hold_y {b:Ben}{f:Fac}(h1:b.wei.all (weiB f)=true) (h2:b.tri.all (triB b f)=true):holdB b f=true:=by unfold holdB;rw [h1,h2];rfl
theorem Holding_ok (b:Ben) (f:Fac) (hw:∀w∈b.wei,(0≤w.a∧w.a<f.offs.length)∧0≤w.b∧w.b<f.offs.length) (ht:∀t∈b.tri,(0≤t.ms∧t.ms<b.mas.length∧t.ms<f.offs.length)∧(0≤t.sc∧t.sc<f.errs.length)∧0≤t.day∧t.day<(nth f.errs t.sc.toNat).length) (ho:∀n∈f.offs, -1000000≤n∧n≤1000000) (he:∀l∈f.errs,∀n∈l, -1000000≤n∧n≤1000000) (hm2:∀m∈b.mas, -1000000≤m.nom∧m.nom≤1000000) (hL:b.wei.length≤1000∧b.tri.length≤1000):ACalls Try.prog 63 [benV b,facV f] [] (fun r o=>r=B (holdB b f)∧o=[]):=by
 have F:=Fx.nil
 refine ent Try.func63 Try.ntmps63 Try.results63 ?_
 have hL1:=hL.1
 have hL2:=hL.2
 replace F:=F.add hL1 |>.add hL2
 refine rK [2,3] ?_
 refine W.seqk fun K1 hK1=>?_
 refine rK [2,3,5] ?_
 refine W.block ?_
 refine lpa (α:=Nat) [2,3] [6,12,36] [] (fun i=>[(5,I i)]) (fun i=>[]) (fun i=>i≤b.wei.length∧b.wei.all (weiB f)=(b.wei.drop i).all (weiB f)) (fun i=>b.wei.length-i) 0 v0 ?_
 ·
  intro i hI0
  simp only [List.cons_append,List.nil_append]
  try dsimp only at hI0
  obtain ⟨hi,kw⟩:=hI0
  replace F:=F.add hi
  refine W.seqk fun K2 hK2=>?_
  refine rK [2,3,5,13] ?_
  refine it (fun hc1=>?_) (fun hc1=>?_)
  ·
   try simp at hc1
   replace F:=F.add hc1
   refine W.skip ?_
   refine hK2 _ ?_
   clear hK2 K2
   refine W.seqk fun K3 hK3=>?_
   refine W.block ?_
   have hil:i<b.wei.length:=by omega
   obtain ⟨q1,q2⟩:=hw _ (List.getElem_mem hil)
   obtain ⟨a,qa⟩:∃a:Nat,b.wei[i].a=a:=⟨b.wei[i].a.toNat,by omega⟩
   obtain ⟨c,qc⟩:∃c:Nat,b.wei[i].b=c:=⟨b.wei[i].b.toNat,by omega⟩
   have hwa:=qa
   have hwb:=qc
   have hal:a<f.offs.length:=by omega
   have hcl:c<f.offs.length:=by omega
   have qob:=ho _ (List.getElem_mem hal)
   have qoc:=ho _ (List.getElem_mem hcl)
   obtain ⟨x,qx⟩:∃x,f.offs[a]=x:=⟨_,rfl⟩
   obtain ⟨y,qy⟩:∃y,f.offs[c]=y:=⟨_,rfl⟩
   have hfx:=qx
   have hfy:=qy
   rw [qx] at qob
   rw [qy] at qoc
   have qwd:weiB f b.wei[i]=decide (b.wei[i].dif.lo≤x-y∧x-y≤b.wei[i].dif.hi):=by
     unfold weiB
     rw [qa,qc,Int.toNat_natCast,Int.toNat_natCast,nth_get hal,nth_get hcl,qx,qy]
   replace F:=F.add hil |>.add hwa |>.add hwb |>.add hal |>.add hcl |>.add hfx |>.add hfy
   refine rK [2,3,5,6] ?_
   by_cases hh1:b.wei[i].dif.lo≤x-y
   ·
    replace F:=F.add hh1
    by_cases hh2:x-y≤b.wei[i].dif.hi
    ·
     replace F:=F.add hh2
     refine wD 15 [] [[],[0],[],[2],[],[4],[4,5,2,3],[3,2,5,4,6],[],[8],[],[10],[10,11,8,9],[9,8,11,10,12],[12,10,11,8,9,13,6,4,5,2,3,7],[7,3,2,5,4,6,13,9,8,11,10,12,14,0,1],[1,0,14,12,10,11,8,9,13,6,4,5,2,3,7,15]] ?_
     refine dBw [([23,24,25,26,27,28,29,30,31,32,33,34,35],[],[]),([23,24,25,26,27,28,29,30,31,32,33,34,35],[true],[]),([21,22,25,26,29,30,31,32,33,34],[false,false],[]),([21,22,25,26,29,30,31,32,33,34],[false,false,true],[]),([21,22,23,24,29,30,31,32,33,34],[false,false,false,false],[]),([21,22,23,24,29,30,31,32,33,34],[false,false,false,false,true],[]),([21,22,29,30,31,32,33,34],[false,false,true,true,true,true],[]),([21,22,29,30,31,32,33,34],[false,false,true,true,true,true,true],[]),([21,22,23,24,25,26,27,28,31,32],[false,false,false,false,false,false,false,false],[]),([21,22,23,24,25,26,27,28,31,32],[false,false,false,false,false,false,false,false,true],[]),([21,22,23,24,25,26,27,28,29,30],[false,false,false,false,false,false,false,false,false,false],[]),([21,22,23,24,25,26,27,28,29,30],[false,false,false,false,false,false,false,false,false,false,true],[]),([21,22,23,24,25,26,27,28],[false,false,false,false,false,false,false,false,true,true,true,true],[]),([21,22,23,24,25,26,27,28],[false,false,false,false,false,false,false,false,true,true,true,true,true],[]),([21,22],[false,false,true,true,true,true,true,true,true,true,true,true,true,true],[])] 0 15 ?_
     refine dD ?_
     refine oC [] ?_
     refine ct (Holds_ok b.wei[i].dif (x-y)) ?_
     refine oN 1 ?_
     refine oK [2,3,5,37] ?_
     refine cF ?_
     refine W.skip ?_
     refine hK3 _ ?_
     clear hK3 K3
     refine rEw ?_
     refine ⟨i+1,lf0, ?_,v0⟩
     ·
      exact ⟨by omega,kw.trans (all_hit hil (by rw [qwd];simp [hh1,hh2]))⟩
    ·
     replace F:=F.add hh2
     refine wD 15 [] [[],[0],[],[2],[],[4],[4,5,2,3],[3,2,5,4,6],[],[8],[],[10],[10,11,8,9],[9,8,11,10,12],[12,10,11,8,9,13,6,4,5,2,3,7],[7,3,2,5,4,6,13,9,8,11,10,12,14,0,1],[1,0,14,12,10,11,8,9,13,6,4,5,2,3,7,15]] ?_
     refine dBw [([23,24,25,26,27,28,29,30,31,32,33,34,35],[],[]),([23,24,25,26,27,28,29,30,31,32,33,34,35],[true],[]),([21,22,25,26,29,30,31,32,33,34],[false,false],[]),([21,22,25,26,29,30,31,32,33,34],[false,false,true],[]),([21,22,23,24,29,30,31,32,33,34],[false,false,false,false],[]),([21,22,23,24,29,30,31,32,33,34],[false,false,false,false,true],[]),([21,22,29,30,31,32,33,34],[false,false,true,true,true,true],[]),([21,22,29,30,31,32,33,34],[false,false,true,true,true,true,true],[]),([21,22,23,24,25,26,27,28,31,32],[false,false,false,false,false,false,false,false],[]),([21,22,23,24,25,26,27,28,31,32],[false,false,false,false,false,false,false,false,true],[]),([21,22,23,24,25,26,27,28,29,30],[false,false,false,false,false,false,false,false,false,false],[]),([21,22,23,24,25,26,27,28,29,30],[false,false,false,false,false,false,false,false,false,false,true],[]),([21,22,23,24,25,26,27,28],[false,false,false,false,false,false,false,false,true,true,true,true],[]),([21,22,23,24,25,26,27,28],[false,false,false,false,false,false,false,false,true,true,true,true,true],[]),([21,22],[false,false,true,true,true,true,true,true,true,true,true,true,true,true],[])] 0 15 ?_
     refine dD ?_
     refine oC [] ?_
     refine ct (Holds_ok b.wei[i].dif (x-y)) ?_
     refine oN 1 ?_
     refine oK [2,3,5,37] ?_
     refine cT ?_
     refine rK [4] ?_
     refine W.ret ?_
     refine br (tr (tr (br (tr ?_))))
     clear hK3 K3 hK1 K1
     refine er false [] [] ?_
     exact ⟨congrArg B (hold_w (kw.trans (all_miss hil (by rw [qwd,decide_eq_false_iff_not];rintro ⟨n1,n2⟩;first | exact hh2 n2 | exact hh1 n1)))).symm,rfl⟩
   ·
    replace F:=F.add hh1
    refine wD 15 [] [[],[0],[],[2],[],[4],[4,5,2,3],[3,2,5,4,6],[],[8],[],[10],[10,11,8,9],[9,8,11,10,12],[12,10,11,8,9,13,6,4,5,2,3,7],[7,3,2,5,4,6,13,9,8,11,10,12,14,0,1],[1,0,14,12,10,11,8,9,13,6,4,5,2,3,7,15]] ?_
    refine dBw [([23,24,25,26,27,28,29,30,31,32,33,34,35],[],[]),([23,24,25,26,27,28,29,30,31,32,33,34,35],[true],[]),([21,22,25,26,29,30,31,32,33,34],[false,false],[]),([21,22,25,26,29,30,31,32,33,34],[false,false,true],[]),([21,22,23,24,29,30,31,32,33,34],[false,false,false,false],[]),([21,22,23,24,29,30,31,32,33,34],[false,false,false,false,true],[]),([21,22,29,30,31,32,33,34],[false,false,true,true,true,true],[]),([21,22,29,30,31,32,33,34],[false,false,true,true,true,true,true],[]),([21,22,23,24,25,26,27,28,31,32],[false,false,false,false,false,false,false,false],[]),([21,22,23,24,25,26,27,28,31,32],[false,false,false,false,false,false,false,false,true],[]),([21,22,23,24,25,26,27,28,29,30],[false,false,false,false,false,false,false,false,false,false],[]),([21,22,23,24,25,26,27,28,29,30],[false,false,false,false,false,false,false,false,false,false,true],[]),([21,22,23,24,25,26,27,28],[false,false,false,false,false,false,false,false,true,true,true,true],[]),([21,22,23,24,25,26,27,28],[false,false,false,false,false,false,false,false,true,true,true,true,true],[]),([21,22],[false,false,true,true,true,true,true,true,true,true,true,true,true,true],[])] 0 15 ?_
    refine dD ?_
    refine oC [] ?_
    refine ct (Holds_ok b.wei[i].dif (x-y)) ?_
    refine oN 1 ?_
    refine oK [2,3,5,37] ?_
    refine cT ?_
    refine rK [4] ?_
    refine W.ret ?_
    refine br (tr (tr (br (tr ?_))))
    clear hK3 K3 hK1 K1
    refine er false [] [] ?_
    exact ⟨congrArg B (hold_w (kw.trans (all_miss hil (by rw [qwd,decide_eq_false_iff_not];rintro ⟨n1,n2⟩;first | exact hh1 n1 | exact hh2 n2)))).symm,rfl⟩
  ·
   try simp at hc1
   replace F:=F.add hc1
   refine W.exit ?_
   refine hK1 _ ?_
   clear hK2 K2 hK1 K1
   refine W.seqk fun K4 hK4=>?_
   refine rK [2,3,7] ?_
   refine W.block ?_
   have qwt:b.wei.all (weiB f)=true:=kw.trans (all_end (by omega))
   refine lpa (α:=Nat) [2,3] [8,41] [] (fun j=>[(7,I j)]) (fun j=>[]) (fun j=>j≤b.tri.length∧b.tri.all (triB b f)=(b.tri.drop j).all (triB b f)) (fun j=>b.tri.length-j) 0 v0 ?_
   ·
    intro j hI1
    simp only [List.cons_append,List.nil_append]
    try dsimp only at hI1
    obtain ⟨hj,kt⟩:=hI1
    replace F:=F.add hj
    refine W.seqk fun K5 hK5=>?_
    refine rK [2,3,7,42] ?_
    refine it (fun hc5=>?_) (fun hc5=>?_)
    ·
     try simp at hc5
     replace F:=F.add hc5
     refine W.skip ?_
     refine hK5 _ ?_
     clear hK5 K5
     refine W.seqk fun K6 hK6=>?_
     refine W.block ?_
     have hjl:j<b.tri.length:=by omega
     obtain ⟨q1,q2,q3⟩:=ht _ (List.getElem_mem hjl)
     obtain ⟨a,qa⟩:∃a:Nat,b.tri[j].ms=a:=⟨b.tri[j].ms.toNat,by omega⟩
     obtain ⟨c,qc⟩:∃c:Nat,b.tri[j].sc=c:=⟨b.tri[j].sc.toNat,by omega⟩
     obtain ⟨d,qd⟩:∃d:Nat,b.tri[j].day=d:=⟨b.tri[j].day.toNat,by omega⟩
     have hwa:=qa
     have hwb:=qc
     have hwd:=qd
     have hal:a<f.offs.length:=by omega
     have hml:a<b.mas.length:=by omega
     have hcl:c<f.errs.length:=by omega
     rw [qc,Int.toNat_natCast,nth_get hcl] at q3
     have hdl:d<f.errs[c].length:=by omega
     have qob:=ho _ (List.getElem_mem hal)
     have qom:=hm2 _ (List.getElem_mem hml)
     have qoe:=he _ (List.getElem_mem hcl) _ (List.getElem_mem hdl)
     obtain ⟨x,qx⟩:∃x,f.offs[a]=x:=⟨_,rfl⟩
     obtain ⟨y,qy⟩:∃y,f.errs[c][d]=y:=⟨_,rfl⟩
     obtain ⟨z,qz⟩:∃z,b.mas[a].nom=z:=⟨_,rfl⟩
     have hfx:=qx
     have hfy:=qy
     have hfz:=qz
     rw [qx] at qob
     rw [qy] at qoe
     rw [qz] at qom
     have qwd:triB b f b.tri[j]=decide (b.tri[j].sh=z+x+y):=by
       unfold triB
       rw [qa,qc,qd,Int.toNat_natCast,Int.toNat_natCast,Int.toNat_natCast,nth_get hal,nth_get hml,nth_get hcl,nth_get hdl,qx,qy,qz]
     have hws1:IntKind.i64.wrap (z+x)=z+x:=wrap_i64 (by omega) (by omega)
     have hws2:IntKind.i64.wrap (z+x+y)=z+x+y:=wrap_i64 (by omega) (by omega)
     replace F:=F.add hjl |>.add hwa |>.add hwb |>.add hwd |>.add hal |>.add hml |>.add hcl |>.add hdl |>.add hfx |>.add hfy |>.add hfz |>.add hws1 |>.add hws2
     refine rK [2,3,7,8] ?_
     by_cases hh:b.tri[j].sh=z+x+y
     ·
      replace F:=F.add hh
      refine wD 27 [] [[],[0],[],[2],[],[4],[4,5,2,3],[3,2,5,4,6],[6,4,5,2,3,7],[],[9],[],[11],[11,12,9,10],[10,9,12,11,13],[13,11,12,9,10,14,7,3,2,5,4,6,8],[],[16],[],[18],[18,19,16,17],[17,16,19,18,20],[],[22],[22,23,20,18,19,16,17,21],[21,17,16,19,18,20,23,22,24],[24,22,23,20,18,19,16,17,21,25,8,6,4,5,2,3,7,14,10,9,12,11,13,15],[15,13,11,12,9,10,14,7,3,2,5,4,6,8,25,21,17,16,19,18,20,23,22,24,26,0,1]] ?_
      refine dB [([52,53,54,55,56,57,58,59,60,61,62,63,64,65,66,67,68,69,70,71,72,73,74,75,76],[],[]),([52,53,54,55,56,57,58,59,60,61,62,63,64,65,66,67,68,69,70,71,72,73,74,75,76],[true],[]),([50,51,54,55,59,60,61,62,63,64,66,67,68,69,70,71,72,73,74,75],[false,false],[]),([50,51,54,55,59,60,61,62,63,64,66,67,68,69,70,71,72,73,74,75],[false,false,true],[]),([50,51,52,53,59,60,61,62,63,64,66,67,68,69,70,71,72,73,74,75],[false,false,false,false],[]),([50,51,52,53,59,60,61,62,63,64,66,67,68,69,70,71,72,73,74,75],[false,false,false,false,true],[]),([50,51,59,60,61,62,63,64,66,67,68,69,70,71,72,73,74,75],[false,false,true,true,true,true],[]),([50,51,59,60,61,62,63,64,66,67,68,69,70,71,72,73,74,75],[false,false,true,true,true,true,true],[]),([50,51,59,60,61,62,63,64,66,67,68,69,70,71,72,73,74,75],[false,false,true,true,true,true,true,true],[]),([50,51,52,53,54,55,56,57,58,61,62,66,67,68,69,70,71,72,73,74,75],[false,false,false,false,false,false,false,false,false],[]),([50,51,52,53,54,55,56,57,58,61,62,66,67,68,69,70,71,72,73,74,75],[false,false,false,false,false,false,false,false,false,true],[]),([50,51,52,53,54,55,56,57,58,59,60,66,67,68,69,70,71,72,73,74,75],[false,false,false,false,false,false,false,false,false,false,false],[]),([50,51,52,53,54,55,56,57,58,59,60,66,67,68,69,70,71,72,73,74,75],[false,false,false,false,false,false,false,false,false,false,false,true],[]),([50,51,52,53,54,55,56,57,58,66,67,68,69,70,71,72,73,74,75],[false,false,false,false,false,false,false,false,false,true,true,true,true],[]),([50,51,52,53,54,55,56,57,58,66,67,68,69,70,71,72,73,74,75],[false,false,false,false,false,false,false,false,false,true,true,true,true,true],[]),([50,51,66,67,68,69,70,71,72,73,74,75],[false,false,true,true,true,true,true,true,true,true,true,true,true,true,true],[]),([50,51,52,53,54,55,56,57,58,59,60,61,62,63,64,65,68,69,72,73],[false,false,false,false,false,false,false,false,false,false,false,false,false,false,false,false],[]),([50,51,52,53,54,55,56,57,58,59,60,61,62,63,64,65,68,69,72,73],[false,false,false,false,false,false,false,false,false,false,false,false,false,false,false,false,true],[]),([50,51,52,53,54,55,56,57,58,59,60,61,62,63,64,65,66,67,72,73],[false,false,false,false,false,false,false,false,false,false,false,false,false,false,false,false,false,false],[]),([50,51,52,53,54,55,56,57,58,59,60,61,62,63,64,65,66,67,72,73],[false,false,false,false,false,false,false,false,false,false,false,false,false,false,false,false,false,false,true],[]),([50,51,52,53,54,55,56,57,58,59,60,61,62,63,64,65,72,73],[false,false,false,false,false,false,false,false,false,false,false,false,false,false,false,false,true,true,true,true],[]),([50,51,52,53,54,55,56,57,58,59,60,61,62,63,64,65,72,73],[false,false,false,false,false,false,false,false,false,false,false,false,false,false,false,false,true,true,true,true,true],[]),([50,51,52,53,54,55,56,57,58,59,60,61,62,63,64,65,66,67,68,69,70,71],[false,false,false,false,false,false,false,false,false,false,false,false,false,false,false,false,false,false,false,false,false,false],[]),([50,51,52,53,54,55,56,57,58,59,60,61,62,63,64,65,66,67,68,69,70,71],[false,false,false,false,false,false,false,false,false,false,false,false,false,false,false,false,false,false,false,false,false,false,true],[]),([50,51,52,53,54,55,56,57,58,59,60,61,62,63,64,65],[false,false,false,false,false,false,false,false,false,false,false,false,false,false,false,false,true,true,true,true,true,true,true,true],[]),([50,51,52,53,54,55,56,57,58,59,60,61,62,63,64,65],[false,false,false,false,false,false,false,false,false,false,false,false,false,false,false,false,true,true,true,true,true,true,true,true,true],[]),([50,51],[false,false,true,true,true,true,true,true,true,true,true,true,true,true,true,true,true,true,true,true,true,true,true,true,true,true],[])] 0 27 ?_
      refine dD ?_
      refine oN 1 ?_
      refine oK [2,3,7,77] ?_
      refine cF ?_
      refine W.skip ?_
      refine hK6 _ ?_
      clear hK6 K6
      refine rEw ?_
      refine ⟨j+1,lf0, ?_,v0⟩
      ·
       exact ⟨by omega,kt.trans (all_hit hjl (by rw [qwd];simp [hh]))⟩
     ·
      replace F:=F.add hh
      refine wD 27 [] [[],[0],[],[2],[],[4],[4,5,2,3],[3,2,5,4,6],[6,4,5,2,3,7],[],[9],[],[11],[11,12,9,10],[10,9,12,11,13],[13,11,12,9,10,14,7,3,2,5,4,6,8],[],[16],[],[18],[18,19,16,17],[17,16,19,18,20],[],[22],[22,23,20,18,19,16,17,21],[21,17,16,19,18,20,23,22,24],[24,22,23,20,18,19,16,17,21,25,8,6,4,5,2,3,7,14,10,9,12,11,13,15],[15,13,11,12,9,10,14,7,3,2,5,4,6,8,25,21,17,16,19,18,20,23,22,24,26,0,1]] ?_
      refine dB [([52,53,54,55,56,57,58,59,60,61,62,63,64,65,66,67,68,69,70,71,72,73,74,75,76],[],[]),([52,53,54,55,56,57,58,59,60,61,62,63,64,65,66,67,68,69,70,71,72,73,74,75,76],[true],[]),([50,51,54,55,59,60,61,62,63,64,66,67,68,69,70,71,72,73,74,75],[false,false],[]),([50,51,54,55,59,60,61,62,63,64,66,67,68,69,70,71,72,73,74,75],[false,false,true],[]),([50,51,52,53,59,60,61,62,63,64,66,67,68,69,70,71,72,73,74,75],[false,false,false,false],[]),([50,51,52,53,59,60,61,62,63,64,66,67,68,69,70,71,72,73,74,75],[false,false,false,false,true],[]),([50,51,59,60,61,62,63,64,66,67,68,69,70,71,72,73,74,75],[false,false,true,true,true,true],[]),([50,51,59,60,61,62,63,64,66,67,68,69,70,71,72,73,74,75],[false,false,true,true,true,true,true],[]),([50,51,59,60,61,62,63,64,66,67,68,69,70,71,72,73,74,75],[false,false,true,true,true,true,true,true],[]),([50,51,52,53,54,55,56,57,58,61,62,66,67,68,69,70,71,72,73,74,75],[false,false,false,false,false,false,false,false,false],[]),([50,51,52,53,54,55,56,57,58,61,62,66,67,68,69,70,71,72,73,74,75],[false,false,false,false,false,false,false,false,false,true],[]),([50,51,52,53,54,55,56,57,58,59,60,66,67,68,69,70,71,72,73,74,75],[false,false,false,false,false,false,false,false,false,false,false],[]),([50,51,52,53,54,55,56,57,58,59,60,66,67,68,69,70,71,72,73,74,75],[false,false,false,false,false,false,false,false,false,false,false,true],[]),([50,51,52,53,54,55,56,57,58,66,67,68,69,70,71,72,73,74,75],[false,false,false,false,false,false,false,false,false,true,true,true,true],[]),([50,51,52,53,54,55,56,57,58,66,67,68,69,70,71,72,73,74,75],[false,false,false,false,false,false,false,false,false,true,true,true,true,true],[]),([50,51,66,67,68,69,70,71,72,73,74,75],[false,false,true,true,true,true,true,true,true,true,true,true,true,true,true],[]),([50,51,52,53,54,55,56,57,58,59,60,61,62,63,64,65,68,69,72,73],[false,false,false,false,false,false,false,false,false,false,false,false,false,false,false,false],[]),([50,51,52,53,54,55,56,57,58,59,60,61,62,63,64,65,68,69,72,73],[false,false,false,false,false,false,false,false,false,false,false,false,false,false,false,false,true],[]),([50,51,52,53,54,55,56,57,58,59,60,61,62,63,64,65,66,67,72,73],[false,false,false,false,false,false,false,false,false,false,false,false,false,false,false,false,false,false],[]),([50,51,52,53,54,55,56,57,58,59,60,61,62,63,64,65,66,67,72,73],[false,false,false,false,false,false,false,false,false,false,false,false,false,false,false,false,false,false,true],[]),([50,51,52,53,54,55,56,57,58,59,60,61,62,63,64,65,72,73],[false,false,false,false,false,false,false,false,false,false,false,false,false,false,false,false,true,true,true,true],[]),([50,51,52,53,54,55,56,57,58,59,60,61,62,63,64,65,72,73],[false,false,false,false,false,false,false,false,false,false,false,false,false,false,false,false,true,true,true,true,true],[]),([50,51,52,53,54,55,56,57,58,59,60,61,62,63,64,65,66,67,68,69,70,71],[false,false,false,false,false,false,false,false,false,false,false,false,false,false,false,false,false,false,false,false,false,false],[]),([50,51,52,53,54,55,56,57,58,59,60,61,62,63,64,65,66,67,68,69,70,71],[false,false,false,false,false,false,false,false,false,false,false,false,false,false,false,false,false,false,false,false,false,false,true],[]),([50,51,52,53,54,55,56,57,58,59,60,61,62,63,64,65],[false,false,false,false,false,false,false,false,false,false,false,false,false,false,false,false,true,true,true,true,true,true,true,true],[]),([50,51,52,53,54,55,56,57,58,59,60,61,62,63,64,65],[false,false,false,false,false,false,false,false,false,false,false,false,false,false,false,false,true,true,true,true,true,true,true,true,true],[]),([50,51],[false,false,true,true,true,true,true,true,true,true,true,true,true,true,true,true,true,true,true,true,true,true,true,true,true,true],[])] 0 27 ?_
      refine dD ?_
      refine oN 1 ?_
      refine oK [2,3,7,77] ?_
      refine cT ?_
      refine rK [4] ?_
      refine W.ret ?_
      refine br (tr (tr (br (tr ?_))))
      clear hK6 K6 hK4 K4
      refine er false [] [] ?_
      exact ⟨congrArg B (hold_t (kt.trans (all_miss hjl (by rw [qwd];simp [hh])))).symm,rfl⟩
    ·
     try simp at hc5
     replace F:=F.add hc5
     refine W.exit ?_
     refine hK4 _ ?_
     clear hK5 K5 hK4 K4
     refine rK [4] ?_
     refine W.ret ?_
     refine er false [] [] ?_
     exact ⟨congrArg B (hold_y qwt (kt.trans (all_end (by omega)))).symm,rfl⟩
end Go.Sim
