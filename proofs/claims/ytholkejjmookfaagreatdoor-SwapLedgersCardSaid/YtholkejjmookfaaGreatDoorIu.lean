/- Rows, parts and numbers of a ledger: program and reference. -/
import Derived.Test.YtholkejjmookfaaGreatDoorId
import Derived.Test.YtholkejjmookfaaGreatDoorRs
namespace Go.Sim
set_option maxHeartbeats 4000000
open Go.Proofs W6
set_option maxRecDepth 100000
set_option linter.unusedSimpArgs false
set_option linter.unusedVariables false
attribute [-simp] List.map_set List.map_take List.map_drop
theorem ba_get (l:List UInt8) (i:Nat):(ba l)[i]?=l[i]?:=by
  by_cases h:i<l.length
  · rw [List.getElem?_eq_getElem h,getElem?_pos (ba l) i (by rw [ba_size];exact h)]
    rfl
  · rw [List.getElem?_eq_none (by omega),getElem?_neg (ba l) i (by rw [ba_size];exact h)]
theorem ba_getE (l:List UInt8) (i:Nat) (h:i<(ba l).size):(ba l)[i]'h=l[i]'(by rw [ba_size] at h;exact h):=rfl
theorem ba_ext (l:List UInt8) (a b:Nat):(ba l).extract a b=ba ((l.drop a).take (b-a)):=by
  have h:=Lib.extract_data (ba l) a b
  rw [ba_toList] at h
  rw [←ba_of ((ba l).extract a b),h]
theorem numS_ba (n:Int):numS n=ba (Lib.itoa n):=rfl
theorem ba_appc (a:List UInt8) (c:Array UInt8):ba a++(⟨c⟩:ByteArray)=ba (a++c.toList):=by
  have:(⟨c⟩:ByteArray)=ba c.toList:=by simp [ba]
  rw [this,ba_app]
theorem bsz (c:Array UInt8):(⟨c⟩:ByteArray).size=c.size:=rfl
attribute [simp] ba_getE ba_appc bsz numS_ba ba_get ba_ext ba_size ba_app Lib.toList_data strIndexA
def SplJ (s:List UInt8) (c:UInt8) (L:List (List UInt8)) (f i:Nat):Prop:=(i≤s.length→spl c [] s=L++spl c ((s.drop f).take (i-f)) (s.drop i))∧(i=s.length+1→spl c [] s=L)
theorem SplJ.init (s:List UInt8) (c:UInt8):SplJ s c [] 0 0:=⟨fun _=>by simp,fun h=>by simp at h⟩
theorem SplJ.last {s:List UInt8}{c:UInt8}{L:List (List UInt8)}{f i:Nat}(h:SplJ s c L f i) (hi:i=s.length):SplJ s c (L++[(s.drop f).take (i-f)]) (i+1) (i+1):=by
  refine ⟨fun k=>by omega,fun _=>?_⟩
  have:=h.1 (by omega)
  have e:s.drop i=[]:=List.drop_eq_nil_of_le (by omega)
  rw [e,spl] at this
  exact this
theorem SplJ.cut {s:List UInt8}{c:UInt8}{L:List (List UInt8)}{f i:Nat}(h:SplJ s c L f i) (hi:i<s.length) (hc:s[i]=c):SplJ s c (L++[(s.drop f).take (i-f)]) (i+1) (i+1):=by
  refine ⟨fun _=>?_,fun k=>by omega⟩
  have:=h.1 (by omega)
  rw [List.drop_eq_getElem_cons hi,spl,if_pos hc] at this
  rw [this];simp
theorem SplJ.on {s:List UInt8}{c:UInt8}{L:List (List UInt8)}{f i:Nat}(h:SplJ s c L f i) (hi:i<s.length) (hf:f≤i) (hc:s[i]≠c):SplJ s c L f (i+1):=by
  refine ⟨fun _=>?_,fun k=>by omega⟩
  have:=h.1 (by omega)
  rw [List.drop_eq_getElem_cons hi,spl,if_neg hc] at this
  rw [this,show i+1-f=(i-f)+1 by omega,List.take_succ_eq_append_getElem (by rw [List.length_drop];omega),List.getElem_drop]
  simp only [show f+(i-f)=i by omega]
theorem rsplit_ok (s:List UInt8) (c:UInt8) (hl:s.length≤1000000):ACalls Tryz.prog 39 [txtA s,.val (.int .u8 (c.toNat:Int))] [] (fun r o=>r=txts (spl c [] s)∧o=[]):=by
 have F:=Fx.nil
 refine ent Tryz.func39 Tryz.ntmps39 Tryz.results39 ?_
 refine rK [0,1] ?_
 refine rK [0,1,5] ?_
 refine rK [0,1,5,6] ?_
 refine W.seqk fun K1 hK1=>?_
 refine rK [0,1,5,6,7] ?_
 refine W.block ?_
 refine sn 5 9000 9 1 ?_
 refine lpa (α:=List (List UInt8)×Nat×Nat) [0,1] [10,16,30,31] [9000] (fun x=>[(6,I x.2.1),(7,I x.2.2),(5,.own 9000 0 x.1.length)]) (fun x=>[(9000,.row true 9 1 (x.1.map txtA))]) (fun x=>x.2.2≤s.length+1∧x.2.1≤x.2.2∧x.1.length≤x.2.2∧SplJ s c x.1 x.2.1 x.2.2) (fun x=>s.length+1-x.2.2) ([],0,0) ?_ ?_
 ·
  exact ⟨by simp,by simp,by simp,SplJ.init s c⟩
 ·
  intro ⟨L,f,i⟩ hI0
  simp only [List.cons_append,List.nil_append]
  try dsimp only at hI0
  obtain ⟨hi0,hfi,hLi,qJ⟩:=hI0
  replace F:=F.add hi0 |>.add hfi |>.add hLi
  refine W.seqk fun K2 hK2=>?_
  refine rK [0,1,5,6,7,11] ?_
  refine it (fun hc1=>?_) (fun hc1=>?_)
  ·
   try simp at hc1
   replace F:=F.add hc1
   refine W.skip ?_
   refine hK2 _ ?_
   clear hK2 K2
   refine W.seqk fun K3 hK3=>?_
   refine W.block ?_
   by_cases hz:i=s.length
   ·
    replace F:=F.add hz
    have hfs:f≤s.length:=by omega
    replace F:=F.add hfs
    refine W.seqR ?_
    refine oN 5 ?_
    refine gF ?_
    refine gF ?_
    refine gF ?_
    refine gF ?_
    refine gF ?_
    refine oN 1 ?_
    refine oK [0,1,5,6,7,24] ?_
    refine cT ?_
    refine rKw [0,1,5,7] ?_
    refine rEw ?_
    refine hK3 _ ?_
    clear hK3 K3
    refine rEw ?_
    refine ⟨(L++[(s.drop f).take (i-f)],i+1,i+1),lf0, ?_,v0⟩
    ·
     first
     | (refine ⟨?_, ?_, ?_,qJ.last hz⟩<;>simp<;>omega)
     | (refine ⟨?_, ?_, ?_,qJ.cut hil qb⟩<;>simp<;>omega)
     | (refine ⟨?_, ?_, ?_,qJ.on hil hfi (qb▸hq)⟩<;>simp<;>omega)
   ·
    replace F:=F.add hz
    have hil:i<s.length:=by omega
    obtain ⟨b,qb⟩:∃b,s[i]=b:=⟨_,rfl⟩
    have hsi:s[i]?=some b:=by rw [List.getElem?_eq_getElem hil,qb]
    replace F:=F.add hil |>.add hsi
    by_cases hq:b=c
    ·
     replace F:=F.add hq
     subst hq
     have hq:True:=trivial
     replace F:=F.add hq
     refine W.seqR ?_
     refine oN 5 ?_
     refine gX ?_
     refine gX ?_
     refine gX ?_
     refine gX ?_
     refine gX ?_
     refine oN 1 ?_
     refine oK [0,1,5,6,7,24] ?_
     refine cT ?_
     refine rKw [0,1,5,7] ?_
     refine rEw ?_
     refine hK3 _ ?_
     clear hK3 K3
     refine rEw ?_
     refine ⟨(L++[(s.drop f).take (i-f)],i+1,i+1),lf0, ?_,v0⟩
     ·
      first
      | (refine ⟨?_, ?_, ?_,qJ.last hz⟩<;>simp<;>omega)
      | (refine ⟨?_, ?_, ?_,qJ.cut hil qb⟩<;>simp<;>omega)
      | (refine ⟨?_, ?_, ?_,qJ.on hil hfi (qb▸hq)⟩<;>simp<;>omega)
    ·
     replace F:=F.add hq
     have hbn:((b.toNat:Int)==(c.toNat:Int))=false:=by
       rw [beq_eq_false_iff_ne];exact fun e=>hq (UInt8.toNat_inj.1 (by omega))
     have hiz:¬(i:Int)=(s.length:Int):=by omega
     replace F:=F.add hbn |>.add hiz
     refine W.seqR ?_
     refine oN 5 ?_
     refine gX ?_
     refine gX ?_
     refine gX ?_
     refine gX ?_
     refine gX ?_
     refine oN 1 ?_
     refine oK [0,1,5,6,7,24] ?_
     refine cF ?_
     refine W.skip ?_
     refine hK3 _ ?_
     clear hK3 K3
     refine rEw ?_
     refine ⟨(L,f,i+1),lf0, ?_,v0⟩
     ·
      first
      | (refine ⟨?_, ?_, ?_,qJ.last hz⟩<;>simp<;>omega)
      | (refine ⟨?_, ?_, ?_,qJ.cut hil qb⟩<;>simp<;>omega)
      | (refine ⟨?_, ?_, ?_,qJ.on hil hfi (qb▸hq)⟩<;>simp<;>omega)
  ·
   try simp at hc1
   replace F:=F.add hc1
   refine W.exit ?_
   refine hK1 _ ?_
   clear hK2 K2 hK1 K1
   refine rK [4] ?_
   refine W.ret ?_
   refine er false [9000] [] ?_
   exact ⟨by rw [qJ.2 (by omega)],rfl⟩
theorem numU_short {k:Nat}{w:List UInt8}(h:w.length<1):numU k w=none:=by
  unfold numU;rw [if_neg];rintro ⟨h1,_⟩;exact h1 (List.length_eq_zero_iff.1 (by omega))
theorem numU_long {k:Nat}{w:List UInt8}(h:k<w.length):numU k w=none:=by
  unfold numU;rw [if_neg];rintro ⟨_,h1,_⟩;omega
theorem numU_zero {k:Nat}{w:List UInt8}(h:w.head?=some 48) (h1:1<w.length):numU k w=none:=by
  unfold numU;rw [if_neg];rintro ⟨_,_,_,h2⟩;have:=h2 h;omega
theorem numU_bad {k i:Nat}{w:List UInt8}(hi:i<w.length) (h:isDig w[i]=false):numU k w=none:=by
  unfold numU;rw [if_neg];rintro ⟨_,_,h2,_⟩
  have:=List.all_eq_true.1 h2 _ (List.getElem_mem hi)
  rw [h] at this;cases this
theorem numU_yes {k:Nat}{w:List UInt8}(h1:1≤w.length) (h2:w.length≤k) (h3:w.all isDig=true) (h4:w.head?=some 48→w.length=1):numU k w=some ((valD w:Nat):Int):=by
  unfold numU;rw [if_pos ⟨fun e=>by rw [e] at h1;simp at h1,h2,h3,h4⟩]
theorem digs_next {w:List UInt8}{i:Nat}{c:UInt8}(hi:i<w.length) (hc:w[i]=c) (hd:isDig c=true) (h:(w.take i).all isDig=true):(w.take (i+1)).all isDig=true:=by
  rw [List.take_succ_eq_append_getElem hi,List.all_append,h,hc,List.all_cons,List.all_nil,hd];rfl
theorem valD_next {w:List UInt8}{i:Nat}{c:UInt8}(hi:i<w.length) (hc:w[i]=c):valD (w.take (i+1))=10 * valD (w.take i)+(c.toNat-48):=by
  rw [List.take_succ_eq_append_getElem hi,hc,valD_snoc]
theorem valD_k {w:List UInt8}{i k:Nat}(h:(w.take i).all isDig=true) (hk:w.length≤k):valD (w.take i)<10 ^ k:=by
  refine Nat.lt_of_lt_of_le (dec_small h) (Nat.pow_le_pow_right (by decide) ?_)
  rw [List.length_take];omega
theorem wrap_u8 {c:Nat}(h0:48≤c) (h1:c≤57):IntKind.u8.wrap ((c:Int)-48)=((c-48:Nat):Int):=by
  have:c=48∨c=49∨c=50∨c=51∨c=52∨c=53∨c=54∨c=55∨c=56∨c=57:=by omega
  rcases this with rfl | rfl | rfl | rfl | rfl | rfl | rfl | rfl | rfl | rfl <;> rfl
abbrev numA (o:Option Int):AV:=.tup [I (o.getD 0),B o.isSome]
theorem rnumber_ok (w:List UInt8):ACalls Tryz.prog 58 [txtA w] [] (fun r o=>r=numA (numU 3 w)∧o=[]):=by
 have F:=Fx.nil
 refine ent Tryz.func58 Tryz.ntmps58 Tryz.results58 ?_
 refine rK [0] ?_
 refine W.seqk fun K1 hK1=>?_
 by_cases h1:(w.length:Int)<1
 ·
  replace F:=F.add h1
  refine W.seqR ?_
  refine oN 4 ?_
  refine gF ?_
  refine gF ?_
  refine gF ?_
  refine oN 2 ?_
  refine gF ?_
  refine gF ?_
  refine gF ?_
  refine gF ?_
  refine gF ?_
  refine gF ?_
  refine gF ?_
  refine gF ?_
  refine oN 1 ?_
  refine oK [0,23] ?_
  refine cT ?_
  refine rK [2,3] ?_
  refine W.ret ?_
  refine tr ?_
  clear hK1 K1
  refine er false [] [] ?_
  first
  | (rw [numU_short (by omega)];exact ⟨rfl,rfl⟩)
  | (rw [numU_long (by omega)];exact ⟨rfl,rfl⟩)
  | (rw [numU_zero hwh (by omega)];exact ⟨rfl,rfl⟩)
  | (rw [numU_bad hil (by rw [qc];unfold isDig;simp;omega)];exact ⟨rfl,rfl⟩)
  | (have hie:i=w.length:=by omega
     rw [hie,List.take_length] at qd qv
     rw [numU_yes (by omega) (by omega) qd (fun e=>by first | omega | (rw [hwh] at e;exact absurd (Option.some.inj e) hb)),←qv];exact ⟨rfl,rfl⟩)
 ·
  replace F:=F.add h1
  by_cases h3:3<(w.length:Int)
  ·
   replace F:=F.add h3
   refine W.seqR ?_
   refine oN 4 ?_
   refine gT ?_
   refine gT ?_
   refine gT ?_
   refine oN 2 ?_
   refine gF ?_
   refine gF ?_
   refine gF ?_
   refine gF ?_
   refine gF ?_
   refine gF ?_
   refine gF ?_
   refine gF ?_
   refine oN 1 ?_
   refine oK [0,23] ?_
   refine cT ?_
   refine rK [2,3] ?_
   refine W.ret ?_
   refine tr ?_
   clear hK1 K1
   refine er false [] [] ?_
   first
   | (rw [numU_short (by omega)];exact ⟨rfl,rfl⟩)
   | (rw [numU_long (by omega)];exact ⟨rfl,rfl⟩)
   | (rw [numU_zero hwh (by omega)];exact ⟨rfl,rfl⟩)
   | (rw [numU_bad hil (by rw [qc];unfold isDig;simp;omega)];exact ⟨rfl,rfl⟩)
   | (have hie:i=w.length:=by omega
      rw [hie,List.take_length] at qd qv
      rw [numU_yes (by omega) (by omega) qd (fun e=>by first | omega | (rw [hwh] at e;exact absurd (Option.some.inj e) hb)),←qv];exact ⟨rfl,rfl⟩)
  ·
   replace F:=F.add h3
   obtain ⟨b,r,qw⟩:∃b r,w=b :: r:=List.exists_cons_of_ne_nil fun e=>by rw [e] at h1;simp at h1
   have hw0:w[0]?=some b:=by rw [qw];rfl
   have hwh:w.head?=some b:=by rw [qw];rfl
   replace F:=F.add hw0 |>.add hwh
   by_cases hb:b=48
   ·
    replace F:=F.add hb
    subst hb
    have hb:True:=trivial
    replace F:=F.add hb
    by_cases hr:1<(w.length:Int)
    ·
     replace F:=F.add hr
     refine W.seqR ?_
     refine oN 4 ?_
     refine gT ?_
     refine gT ?_
     refine gT ?_
     refine oN 2 ?_
     refine gT ?_
     refine gT ?_
     refine gT ?_
     refine gT ?_
     refine gT ?_
     refine gT ?_
     refine gT ?_
     refine gT ?_
     refine oN 1 ?_
     refine oK [0,23] ?_
     refine cT ?_
     refine rK [2,3] ?_
     refine W.ret ?_
     refine tr ?_
     clear hK1 K1
     refine er false [] [] ?_
     first
     | (rw [numU_short (by omega)];exact ⟨rfl,rfl⟩)
     | (rw [numU_long (by omega)];exact ⟨rfl,rfl⟩)
     | (rw [numU_zero hwh (by omega)];exact ⟨rfl,rfl⟩)
     | (rw [numU_bad hil (by rw [qc];unfold isDig;simp;omega)];exact ⟨rfl,rfl⟩)
     | (have hie:i=w.length:=by omega
        rw [hie,List.take_length] at qd qv
        rw [numU_yes (by omega) (by omega) qd (fun e=>by first | omega | (rw [hwh] at e;exact absurd (Option.some.inj e) hb)),←qv];exact ⟨rfl,rfl⟩)
    ·
     replace F:=F.add hr
     refine W.seqR ?_
     refine oN 4 ?_
     refine gT ?_
     refine gT ?_
     refine gT ?_
     refine oN 2 ?_
     refine gT ?_
     refine gT ?_
     refine gT ?_
     refine gT ?_
     refine gT ?_
     refine gT ?_
     refine gT ?_
     refine gT ?_
     refine oN 1 ?_
     refine oK [0,23] ?_
     refine cF ?_
     refine W.skip ?_
     refine hK1 _ ?_
     clear hK1 K1
     refine rK [0,4] ?_
     refine W.seqk fun K2 hK2=>?_
     refine rK [0,4,5] ?_
     refine W.block ?_
     refine lpa (α:=Nat×Nat) [0] [26] [] (fun x=>[(5,I x.1),(4,I x.2)]) (fun x=>[]) (fun x=>x.1≤w.length∧(w.take x.1).all isDig=true∧x.2=valD (w.take x.1)) (fun x=>w.length-x.1) (0,0) ?_ ?_
     ·
      exact ⟨Nat.zero_le _,rfl,rfl⟩
     ·
      intro ⟨i,v⟩ hI0
      simp only [List.cons_append,List.nil_append]
      try dsimp only at hI0
      obtain ⟨hi0,qd,qv⟩:=hI0
      replace F:=F.add hi0
      refine W.seqk fun K3 hK3=>?_
      refine rK [0,4,5,27] ?_
      refine it (fun hc5=>?_) (fun hc5=>?_)
      ·
       try simp at hc5
       replace F:=F.add hc5
       refine W.skip ?_
       refine hK3 _ ?_
       clear hK3 K3
       refine W.seqk fun K4 hK4=>?_
       refine W.block ?_
       refine W.seqk fun K5 hK5=>?_
       have hil:i<w.length:=by omega
       obtain ⟨c,qc⟩:∃c,w[i]=c:=⟨_,rfl⟩
       have hci:w[i]?=some c:=by rw [List.getElem?_eq_getElem hil,qc]
       have hcl:=qc
       have hvb:v<1000:=by rw [qv];exact valD_k (k:=3) qd (by omega)
       replace F:=F.add hil |>.add hci |>.add hcl |>.add hvb
       by_cases hlo:(c.toNat:Int)<48
       ·
        replace F:=F.add hlo
        refine W.seqR ?_
        refine oN 5 ?_
        refine gF ?_
        refine gF ?_
        refine gF ?_
        refine gF ?_
        refine oN 1 ?_
        refine oK [0,4,5,39] ?_
        refine cT ?_
        refine rK [2,3] ?_
        refine W.ret ?_
        refine tr (br (tr (tr (br (tr ?_)))))
        clear hK5 K5 hK4 K4 hK2 K2
        refine er false [] [] ?_
        first
        | (rw [numU_short (by omega)];exact ⟨rfl,rfl⟩)
        | (rw [numU_long (by omega)];exact ⟨rfl,rfl⟩)
        | (rw [numU_zero hwh (by omega)];exact ⟨rfl,rfl⟩)
        | (rw [numU_bad hil (by rw [qc];unfold isDig;simp;omega)];exact ⟨rfl,rfl⟩)
        | (have hie:i=w.length:=by omega
           rw [hie,List.take_length] at qd qv
           rw [numU_yes (by omega) (by omega) qd (fun e=>by first | omega | (rw [hwh] at e;exact absurd (Option.some.inj e) hb)),←qv];exact ⟨rfl,rfl⟩)
       ·
        replace F:=F.add hlo
        by_cases hhi:57<(c.toNat:Int)
        ·
         replace F:=F.add hhi
         refine W.seqR ?_
         refine oN 5 ?_
         refine gT ?_
         refine gT ?_
         refine gT ?_
         refine gT ?_
         refine oN 1 ?_
         refine oK [0,4,5,39] ?_
         refine cT ?_
         refine rK [2,3] ?_
         refine W.ret ?_
         refine tr (br (tr (tr (br (tr ?_)))))
         clear hK5 K5 hK4 K4 hK2 K2
         refine er false [] [] ?_
         first
         | (rw [numU_short (by omega)];exact ⟨rfl,rfl⟩)
         | (rw [numU_long (by omega)];exact ⟨rfl,rfl⟩)
         | (rw [numU_zero hwh (by omega)];exact ⟨rfl,rfl⟩)
         | (rw [numU_bad hil (by rw [qc];unfold isDig;simp;omega)];exact ⟨rfl,rfl⟩)
         | (have hie:i=w.length:=by omega
            rw [hie,List.take_length] at qd qv
            rw [numU_yes (by omega) (by omega) qd (fun e=>by first | omega | (rw [hwh] at e;exact absurd (Option.some.inj e) hb)),←qv];exact ⟨rfl,rfl⟩)
        ·
         replace F:=F.add hhi
         have hwu:IntKind.u8.wrap ((c.toNat:Int)-48)=((c.toNat-48:Nat):Int):=wrap_u8 (by omega) (by omega)
         have hcb:c.toNat-48≤9:=by omega
         have hdc:isDig c=true:=by unfold isDig;simp;omega
         replace F:=F.add hwu |>.add hcb |>.add hdc
         refine W.seqR ?_
         refine oN 5 ?_
         refine gT ?_
         refine gT ?_
         refine gT ?_
         refine gT ?_
         refine oN 1 ?_
         refine oK [0,4,5,39] ?_
         refine cF ?_
         refine W.skip ?_
         refine hK5 _ ?_
         clear hK5 K5
         refine rEw ?_
         refine hK4 _ ?_
         clear hK4 K4
         refine rEw ?_
         refine ⟨(i+1,10 * v+(c.toNat-48)),lf0, ?_,v0⟩
         ·
          exact ⟨by show i+1≤_;omega,digs_next hil qc hdc qd,by show _=valD _;rw [valD_next hil qc,←qv]⟩
      ·
       try simp at hc5
       replace F:=F.add hc5
       refine W.exit ?_
       refine hK2 _ ?_
       clear hK3 K3 hK2 K2
       refine rK [2,3] ?_
       refine W.ret ?_
       refine er false [] [] ?_
       first
       | (rw [numU_short (by omega)];exact ⟨rfl,rfl⟩)
       | (rw [numU_long (by omega)];exact ⟨rfl,rfl⟩)
       | (rw [numU_zero hwh (by omega)];exact ⟨rfl,rfl⟩)
       | (rw [numU_bad hil (by rw [qc];unfold isDig;simp;omega)];exact ⟨rfl,rfl⟩)
       | (have hie:i=w.length:=by omega
          rw [hie,List.take_length] at qd qv
          rw [numU_yes (by omega) (by omega) qd (fun e=>by first | omega | (rw [hwh] at e;exact absurd (Option.some.inj e) hb)),←qv];exact ⟨rfl,rfl⟩)
   ·
    replace F:=F.add hb
    have hbe:((b.toNat:Int)==48)=false:=by
      rw [beq_eq_false_iff_ne];exact fun e=>hb (UInt8.toNat_inj.1 (show b.toNat=48 by omega))
    replace F:=F.add hbe
    refine W.seqR ?_
    refine oN 4 ?_
    refine gT ?_
    refine gT ?_
    refine gT ?_
    refine oN 2 ?_
    refine gT ?_
    refine gT ?_
    refine gT ?_
    refine gT ?_
    refine gF ?_
    refine gF ?_
    refine gF ?_
    refine gT ?_
    refine oN 1 ?_
    refine oK [0,23] ?_
    refine cF ?_
    refine W.skip ?_
    refine hK1 _ ?_
    clear hK1 K1
    refine rK [0,4] ?_
    refine W.seqk fun K6 hK6=>?_
    refine rK [0,4,5] ?_
    refine W.block ?_
    refine lpa (α:=Nat×Nat) [0] [26] [] (fun x=>[(5,I x.1),(4,I x.2)]) (fun x=>[]) (fun x=>x.1≤w.length∧(w.take x.1).all isDig=true∧x.2=valD (w.take x.1)) (fun x=>w.length-x.1) (0,0) ?_ ?_
    ·
     exact ⟨Nat.zero_le _,rfl,rfl⟩
    ·
     intro ⟨i,v⟩ hI0
     simp only [List.cons_append,List.nil_append]
     try dsimp only at hI0
     obtain ⟨hi0,qd,qv⟩:=hI0
     replace F:=F.add hi0
     refine W.seqk fun K7 hK7=>?_
     refine rK [0,4,5,27] ?_
     refine it (fun hc10=>?_) (fun hc10=>?_)
     ·
      try simp at hc10
      replace F:=F.add hc10
      refine W.skip ?_
      refine hK7 _ ?_
      clear hK7 K7
      refine W.seqk fun K8 hK8=>?_
      refine W.block ?_
      refine W.seqk fun K9 hK9=>?_
      have hil:i<w.length:=by omega
      obtain ⟨c,qc⟩:∃c,w[i]=c:=⟨_,rfl⟩
      have hci:w[i]?=some c:=by rw [List.getElem?_eq_getElem hil,qc]
      have hcl:=qc
      have hvb:v<1000:=by rw [qv];exact valD_k (k:=3) qd (by omega)
      replace F:=F.add hil |>.add hci |>.add hcl |>.add hvb
      by_cases hlo:(c.toNat:Int)<48
      ·
       replace F:=F.add hlo
       refine W.seqR ?_
       refine oN 5 ?_
       refine gF ?_
       refine gF ?_
       refine gF ?_
       refine gF ?_
       refine oN 1 ?_
       refine oK [0,4,5,39] ?_
       refine cT ?_
       refine rK [2,3] ?_
       refine W.ret ?_
       refine tr (br (tr (tr (br (tr ?_)))))
       clear hK9 K9 hK8 K8 hK6 K6
       refine er false [] [] ?_
       first
       | (rw [numU_short (by omega)];exact ⟨rfl,rfl⟩)
       | (rw [numU_long (by omega)];exact ⟨rfl,rfl⟩)
       | (rw [numU_zero hwh (by omega)];exact ⟨rfl,rfl⟩)
       | (rw [numU_bad hil (by rw [qc];unfold isDig;simp;omega)];exact ⟨rfl,rfl⟩)
       | (have hie:i=w.length:=by omega
          rw [hie,List.take_length] at qd qv
          rw [numU_yes (by omega) (by omega) qd (fun e=>by first | omega | (rw [hwh] at e;exact absurd (Option.some.inj e) hb)),←qv];exact ⟨rfl,rfl⟩)
      ·
       replace F:=F.add hlo
       by_cases hhi:57<(c.toNat:Int)
       ·
        replace F:=F.add hhi
        refine W.seqR ?_
        refine oN 5 ?_
        refine gT ?_
        refine gT ?_
        refine gT ?_
        refine gT ?_
        refine oN 1 ?_
        refine oK [0,4,5,39] ?_
        refine cT ?_
        refine rK [2,3] ?_
        refine W.ret ?_
        refine tr (br (tr (tr (br (tr ?_)))))
        clear hK9 K9 hK8 K8 hK6 K6
        refine er false [] [] ?_
        first
        | (rw [numU_short (by omega)];exact ⟨rfl,rfl⟩)
        | (rw [numU_long (by omega)];exact ⟨rfl,rfl⟩)
        | (rw [numU_zero hwh (by omega)];exact ⟨rfl,rfl⟩)
        | (rw [numU_bad hil (by rw [qc];unfold isDig;simp;omega)];exact ⟨rfl,rfl⟩)
        | (have hie:i=w.length:=by omega
           rw [hie,List.take_length] at qd qv
           rw [numU_yes (by omega) (by omega) qd (fun e=>by first | omega | (rw [hwh] at e;exact absurd (Option.some.inj e) hb)),←qv];exact ⟨rfl,rfl⟩)
       ·
        replace F:=F.add hhi
        have hwu:IntKind.u8.wrap ((c.toNat:Int)-48)=((c.toNat-48:Nat):Int):=wrap_u8 (by omega) (by omega)
        have hcb:c.toNat-48≤9:=by omega
        have hdc:isDig c=true:=by unfold isDig;simp;omega
        replace F:=F.add hwu |>.add hcb |>.add hdc
        refine W.seqR ?_
        refine oN 5 ?_
        refine gT ?_
        refine gT ?_
        refine gT ?_
        refine gT ?_
        refine oN 1 ?_
        refine oK [0,4,5,39] ?_
        refine cF ?_
        refine W.skip ?_
        refine hK9 _ ?_
        clear hK9 K9
        refine rEw ?_
        refine hK8 _ ?_
        clear hK8 K8
        refine rEw ?_
        refine ⟨(i+1,10 * v+(c.toNat-48)),lf0, ?_,v0⟩
        ·
         exact ⟨by show i+1≤_;omega,digs_next hil qc hdc qd,by show _=valD _;rw [valD_next hil qc,←qv]⟩
     ·
      try simp at hc10
      replace F:=F.add hc10
      refine W.exit ?_
      refine hK6 _ ?_
      clear hK7 K7 hK6 K6
      refine rK [2,3] ?_
      refine W.ret ?_
      refine er false [] [] ?_
      first
      | (rw [numU_short (by omega)];exact ⟨rfl,rfl⟩)
      | (rw [numU_long (by omega)];exact ⟨rfl,rfl⟩)
      | (rw [numU_zero hwh (by omega)];exact ⟨rfl,rfl⟩)
      | (rw [numU_bad hil (by rw [qc];unfold isDig;simp;omega)];exact ⟨rfl,rfl⟩)
      | (have hie:i=w.length:=by omega
         rw [hie,List.take_length] at qd qv
         rw [numU_yes (by omega) (by omega) qd (fun e=>by first | omega | (rw [hwh] at e;exact absurd (Option.some.inj e) hb)),←qv];exact ⟨rfl,rfl⟩)
