/- A row's word and numbers, by program and reference; a ledger as the reference writes it. -/
import Derived.Test.YtholkejjmookfaaDoorIu
import Derived.Test.YtholkejjmookfaaDoorVm
namespace Go.Sim
open Go.Proofs W6
set_option maxRecDepth 100000
set_option linter.unusedSimpArgs false
set_option linter.unusedVariables false
attribute [-simp] List.map_set List.map_take List.map_drop
def prsA (p:Option (List UInt8×List Int)):AV:=match p with
  | some (w,l)=>.tup [txtA w,ints l,B true]
  | none=>.tup [.val (.string ⟨#[]⟩),.val (.slice none 0 0),B false]
theorem numsV_next {f:List UInt8→Option Int}{ws:List (List UInt8)}{i:Nat}{l:List Int}{n:Int}{x:List UInt8}(hi:i<ws.length) (hx:ws[i]=x) (hl:numsV f (ws.take i)=some l) (hn:f x=some n):numsV f (ws.take (i+1))=some (l++[n]):=by
  rw [List.take_succ_eq_append_getElem hi,numsV_snoc,hl,hx,hn]
theorem parse6_none {row w0 x:List UInt8}{ws:List (List UInt8)}{i:Nat}(hs:spl 32 [] row=w0 :: ws) (hi:i<ws.length) (hx:ws[i]=x) (hn:numU 3 x=none):parse6 row=none:=by
  unfold parse6 parseF
  rw [hs]
  simp only
  rw [numsV_none (List.getElem_mem hi) (by rw [hx];exact hn)];rfl
theorem parse6_some {row w0:List UInt8}{ws:List (List UInt8)}{l:List Int}(hs:spl 32 [] row=w0 :: ws) (hl:numsV (numU 3) ws=some l):parse6 row=some (w0,l):=by
  unfold parse6 parseF
  rw [hs]
  simp only
  rw [hl];rfl
theorem parse6_bad {row w0 x:List UInt8}{ws:List (List UInt8)}{i:Nat}(hs:spl 32 [] row=w0 :: ws) (hi:i<ws.length) (hx:ws[i]=x) (h:¬(isOk x=true∧0≤atoiV x∧x.length≤3∧Lib.itoa (atoiV x)=x)):parse6 row=none:=by
  refine parse6_none hs hi hx ?_
  cases hn:numU 3 x with
  | none=>rfl
  | some v =>
    obtain ⟨k1,k2,k3,k4⟩:=(numU_prog (by decide) x v).2 hn
    have e1:atoiV x=v:=by unfold atoiV;rw [k1]
    exact absurd ⟨by unfold isOk;rw [k1],by rw [e1];exact k2,k3,by rw [e1];exact k4⟩ h
set_option maxHeartbeats 4000000 in
theorem parse_ok (ob:Lb) (row:List UInt8) (hl:row.length≤1000000):ACalls Tryd.prog 31 [txtA row] [(10900,tabO ob)] (fun r o=>r=prsA (parse6 row)∧o=[(10900,tabO ob)]):=by
 have F:=Fx.nil
 refine ent Tryd.func31 Tryd.ntmps31 Tryd.results31 ?_
 refine rK [0] ?_
 refine W.seqR ?_
 refine oN 1 ?_
 refine oC [(10900,10900)] ?_
 refine CallT.mk (Split_ok ob (ba row) 32 (by rw [ba_size];exact hl)) (by simp) ?_
 obtain ⟨w0,ws,qs⟩:∃w0 ws,spl 32 [] row=w0 :: ws:=List.exists_cons_of_ne_nil spl_ne
 have hsp:=qs
 have qle:=spl_len (c:=32) (l:=row) (cur:=[])
 have qpl:∀p∈ws,p.length≤row.length:=fun p hp=>by
   have:=spl_part (c:=32) (l:=row) (cur:=[]) (p:=p) (by rw [qs];exact List.mem_cons_of_mem _ hp)
   simpa using this
 rw [qs] at qle
 have qwl:ws.length≤1000000:=by simp at qle;omega
 replace F:=F.add hsp
 refine WOps.norm (by simp [hsp];rfl) ?_
 refine oN 1 ?_
 refine oK [5] ?_
 refine rK [5,6] ?_
 refine W.seqk fun K1 hK1=>?_
 refine rK [5,6,14,15,16] ?_
 refine W.block ?_
 refine sn 6 9000 3 1 ?_
 refine lpa (α:=List Int×Nat) [5,14,15] [22,33,38,44,45] [9000] (fun x=>[(16,I x.2),(6,.own 9000 0 x.1.length)]) (fun x=>[(9000,.row true 3 1 (x.1.map I))]) (fun x=>x.2≤ws.length∧x.1.length=x.2∧numsV (numU 3) (ws.take x.2)=some x.1) (fun x=>ws.length-x.2) ([],0) ?_ ?_
 ·
  exact ⟨Nat.zero_le _,rfl,rfl⟩
 ·
  intro ⟨l,i⟩ hI0
  simp only [List.cons_append,List.nil_append]
  try dsimp only at hI0
  obtain ⟨hi0,hli,qn⟩:=hI0
  replace F:=F.add hi0 |>.add hli
  refine rK [5,6,14,15,16,17] ?_
  refine W.seqk fun K2 hK2=>?_
  refine it (fun hc1=>?_) (fun hc1=>?_)
  ·
   try simp at hc1
   replace F:=F.add hc1
   refine W.skip ?_
   refine hK2 _ ?_
   clear hK2 K2
   refine W.seqk fun K3 hK3=>?_
   refine W.block ?_
   have hil:i<ws.length:=by omega
   obtain ⟨x,qx⟩:∃x,ws[i]=x:=⟨_,rfl⟩
   have hx:=qx
   have hxo:ws[i]?=some x:=by rw [List.getElem?_eq_getElem hil,qx]
   have qxl:x.length≤1000000:=by have:=qpl x (by rw [←qx];exact List.getElem_mem hil);omega
   replace F:=F.add hil |>.add hx |>.add hxo
   refine rK [5,6,8,14,15,16] ?_
   refine W.seqR ?_
   refine oN 1 ?_
   refine oC [(10900,10900)] ?_
   refine CallT.mkE (Atoi_ok ob (ba x) (by rw [ba_size];exact qxl)) (fun z22 hz22=>⟨(by simp [hsp,hi0,hli,hc1,hil,hx,hxo]), ?_⟩)
   have qae:AtoiE x z22:=by simpa using hz22
   refine WOps.norm (by simp [hsp,hi0,hli,hc1,hil,hx,hxo];rfl) ?_
   refine oN 5 ?_
   refine oK [5,6,8,9,10,14,15,16] ?_
   refine W.seqk fun K4 hK4=>?_
   by_cases hk:isOk x=true
   ·
    replace F:=F.add hk
    have hze:=atoiE_t qae hk
    replace F:=F.add hze
    by_cases hnn:0≤atoiV x
    ·
     replace F:=F.add hnn
     have hnl:¬atoiV x<0:=by omega
     replace F:=F.add hnl
     by_cases hle:(x.length:Int)≤3
     ·
      replace F:=F.add hle
      have hl3:¬3<(x.length:Int):=by omega
      have qok:=isOk_ok hk
      have qb : -9223372036854775808≤atoiV x∧atoiV x≤9223372036854775807:=by
        have:=Lib.atoiAll_bounds qok;omega
      replace F:=F.add hl3
      refine W.seqR ?_
      refine oN 3 ?_
      refine gT ?_
      refine gT ?_
      refine oN 2 ?_
      refine gT ?_
      refine gT ?_
      refine gT ?_
      refine oN 2 ?_
      refine gT ?_
      refine gC [(10900,10900)] ?_
      refine ct (Itoa_ok ob (atoiV x) qb.1 qb.2) ?_
      refine gT ?_
      refine gT ?_
      refine oN 1 ?_
      refine oK [5,6,9,14,15,16,41] ?_
      refine it (fun hc2=>?_) (fun hc2=>?_)
      ·
       try simp at hc2
       replace F:=F.add hc2
       refine rK [2,3,4] ?_
       refine W.ret ?_
       refine tr (br (tr (tr (br (tr ?_)))))
       clear hK4 K4 hK3 K3 hK1 K1
       refine er false [] [(10900,10900)] ?_
       (rw [parse6_bad qs hil qx (by rintro ⟨k1,k2,k3,k4⟩;first | exact hk k1 | exact hnn k2 | exact hle (by omega) | simp_all)];exact ⟨rfl,rfl⟩)
      ·
       try simp at hc2
       replace F:=F.add hc2
       refine W.skip ?_
       refine hK4 _ ?_
       clear hK4 K4
       refine rEw ?_
       refine hK3 _ ?_
       clear hK3 K3
       refine rEw ?_
       refine ⟨(l++[atoiV x],i+1),lf0, ?_,v0⟩
       ·
        exact ⟨by show i+1≤_;omega,by simp [hli],numsV_next hil qx qn ((numU_prog (by decide) x (atoiV x)).1 ⟨isOk_ok hk,hnn,by omega,by simpa using hc2⟩)⟩
     ·
      replace F:=F.add hle
      have hl3:3<(x.length:Int):=by omega
      replace F:=F.add hl3
      refine W.seqR ?_
      refine oN 3 ?_
      refine gT ?_
      refine gT ?_
      refine oN 2 ?_
      refine gT ?_
      refine gT ?_
      refine gT ?_
      refine oN 2 ?_
      refine gF ?_
      refine gF ?_
      refine gF ?_
      refine gF ?_
      refine oN 1 ?_
      refine oK [5,6,9,14,15,16,41] ?_
      refine cT ?_
      refine rK [2,3,4] ?_
      refine W.ret ?_
      refine tr (br (tr (tr (br (tr ?_)))))
      clear hK4 K4 hK3 K3 hK1 K1
      refine er false [9000] [(10900,10900)] ?_
      (rw [parse6_bad qs hil qx (by rintro ⟨k1,k2,k3,k4⟩;first | exact hk k1 | exact hnn k2 | exact hle (by omega) | simp_all)];exact ⟨rfl,rfl⟩)
    ·
     replace F:=F.add hnn
     have hnl:atoiV x<0:=by omega
     replace F:=F.add hnl
     refine W.seqR ?_
     refine oN 3 ?_
     refine gT ?_
     refine gT ?_
     refine oN 2 ?_
     refine gF ?_
     refine gF ?_
     refine gF ?_
     refine oN 2 ?_
     refine gF ?_
     refine gF ?_
     refine gF ?_
     refine gF ?_
     refine oN 1 ?_
     refine oK [5,6,9,14,15,16,41] ?_
     refine cT ?_
     refine rK [2,3,4] ?_
     refine W.ret ?_
     refine tr (br (tr (tr (br (tr ?_)))))
     clear hK4 K4 hK3 K3 hK1 K1
     refine er false [9000] [(10900,10900)] ?_
     (rw [parse6_bad qs hil qx (by rintro ⟨k1,k2,k3,k4⟩;first | exact hk k1 | exact hnn k2 | exact hle (by omega) | simp_all)];exact ⟨rfl,rfl⟩)
   ·
    replace F:=F.add hk
    obtain ⟨te,pe,qe⟩:=atoiE_f qae (by simpa using hk)
    have hze:=qe
    replace F:=F.add hze
    refine W.seqR ?_
    refine oN 3 ?_
    refine gF ?_
    refine gF ?_
    refine oN 2 ?_
    refine gF ?_
    refine gF ?_
    refine gF ?_
    refine oN 2 ?_
    refine gF ?_
    refine gF ?_
    refine gF ?_
    refine gF ?_
    refine oN 1 ?_
    refine oK [5,6,9,14,15,16,41] ?_
    refine cT ?_
    refine rK [2,3,4] ?_
    refine W.ret ?_
    refine tr (br (tr (tr (br (tr ?_)))))
    clear hK4 K4 hK3 K3 hK1 K1
    refine er false [9000] [(10900,10900)] ?_
    (rw [parse6_bad qs hil qx (by rintro ⟨k1,k2,k3,k4⟩;first | exact hk k1 | exact hnn k2 | exact hle (by omega) | simp_all)];exact ⟨rfl,rfl⟩)
  ·
   try simp at hc1
   replace F:=F.add hc1
   refine W.exit ?_
   refine hK1 _ ?_
   clear hK2 K2 hK1 K1
   refine rK [2,3,4] ?_
   refine W.ret ?_
   refine er false [9000] [(10900,10900)] ?_
   (have hie:i=ws.length:=by omega
    have ht:List.take i (l.map I)=l.map I:=List.take_of_length_le (by simp [hli])
    rw [hie,List.take_length] at qn
    rw [ht,parse6_some qs qn];exact ⟨rfl,rfl⟩)
