/- Valid lettings; the wishes of an applicant that it can have. -/
import Derived.Test.YtadlbdekaehipaaDoorLb
namespace Go.Sim
set_option maxHeartbeats 4000000
open Go.Proofs
set_option maxRecDepth 100000
set_option linter.unusedSimpArgs false
set_option linter.unusedVariables false
attribute [-simp] List.map_set List.map_take List.map_drop
theorem nodup_subset_length {α:Type} [DecidableEq α]:∀ {l L:List α},l.Nodup→(∀x∈l,x∈L)→l.length≤L.length
  | [],_,_,_=>Nat.zero_le _
  | x :: l, L, hn, hs => by
    have hx:=hs x (by simp)
    have ih:=nodup_subset_length (L:=L.erase x) (List.nodup_cons.1 hn).2 (fun y hy=>by
      have hne:y≠x:=fun e=>(List.nodup_cons.1 hn).1 (e▸hy)
      exact (List.mem_erase_of_ne hne).2 (hs y (by simp [hy])))
    rw [List.length_erase_of_mem hx] at ih
    have:=List.length_pos_of_mem hx
    simp only [List.length_cons];omega
theorem le_of_nodup_int {l:List Int}{n:Nat}(hd:l.Nodup) (hl:∀x∈l,0≤x∧x<n):l.length≤n:=by
  have:=nodup_subset_length hd (L:=(List.range n).map Int.ofNat) (fun x hx=>List.mem_map.2 ⟨x.toNat,List.mem_range.2 (by have:=hl x hx;omega),by have:=hl x hx;simp;omega⟩)
  simpa using this
structure AppOk (n:Nat) (a:App):Prop where
  years:0≤a.years∧a.years≤60
  token:0≤a.token∧a.token≤1000000000
  wish:∀w∈a.wishes,0≤w∧w<n
  nodup:a.wishes.Nodup
  len:a.bids.length=a.wishes.length
  bid:∀b∈a.bids,0≤b∧b≤1000000
structure StlOk (n:Nat) (s:Stl):Prop where
  rule:1≤s.rule∧s.rule≤3
  least:0≤s.least∧s.least≤1000000
  heir : -1≤s.heir∧s.heir<n
structure ValidL (l:Lett):Prop where
  s0:0<l.stalls.length
  s8:l.stalls.length≤8
  st:∀s∈l.stalls,StlOk l.apps.length s
  a8:l.apps.length≤8
  ap:∀a∈l.apps,AppOk l.stalls.length a
theorem AppOk.wlen {n:Nat}{a:App}(h:AppOk n a):a.wishes.length≤n:=le_of_nodup_int h.nodup h.wish
theorem nodup_take_iff {α:Type} [NthD α]:∀ {l:List α},l.Nodup↔∀i,i<l.length→nth l i ∉ l.take i:=by
  intro l
  rw [List.nodup_iff_pairwise_ne,List.pairwise_iff_getElem]
  constructor
  · intro h i hi hm
    obtain ⟨j,hj,he⟩:=List.getElem_of_mem hm
    rw [List.length_take] at hj
    rw [List.getElem_take,nth_get hi] at he
    exact h j i (by omega) hi (by omega) he
  · intro h i j hi hj hij he
    refine h j hj ?_
    rw [nth_get hj,←he]
    exact List.mem_iff_getElem.2 ⟨i,by rw [List.length_take];omega,by rw [List.getElem_take]⟩
theorem wishErr_zero {n:Nat}{l:List Int}:wishErr n l=0↔(∀w∈l,0≤w∧w<n)∧l.Nodup:=by
  rw [wishErr,firstNZ_zero,nodup_take_iff]
  simp only [List.mem_range]
  constructor
  · intro h
    refine ⟨fun w hw=>?_,fun i hi hm=>?_⟩
    · obtain ⟨i,hi,rfl⟩:=List.getElem_of_mem hw
      have:=h i hi
      rw [wishG,nth_get hi] at this
      split at this
      · cases this
      · omega
    · have:=h i hi
      rw [wishG] at this
      split at this
      · cases this
      · simp [hm] at this
  · rintro ⟨h1,h2⟩ i hi
    have:=h1 _ (List.getElem_mem hi)
    rw [wishG,nth_get hi,if_neg (by omega),if_neg (by have:=h2 i hi;rwa [nth_get hi] at this)]
theorem stlErr_zero {n : Nat} {s : Stl} : stlErr n s = 0 ↔ StlOk n s := by
  unfold stlErr
  constructor
  · intro h
    split at h
    · cases h
    · split at h
      · cases h
      · split at h
        · cases h
        · exact ⟨by omega,by omega,by omega⟩
  · intro h
    obtain ⟨h1,h2,h3⟩:=h
    rw [if_neg (by omega),if_neg (by omega),if_neg (by omega)]
theorem appErr_zero {n : Nat} {a : App} : appErr n a = 0 ↔ AppOk n a := by
  unfold appErr
  constructor
  · intro h
    split at h
    · cases h
    · rename_i h1
      split at h
      · rename_i h2;exact absurd h h2
      · rename_i h2
        split at h
        · cases h
        · rename_i h3
          split at h
          · cases h
          · rename_i h4
            obtain ⟨h5,h6⟩:=wishErr_zero.1 (Classical.not_not.1 h2)
            refine ⟨by omega,by omega,h5,h6,by omega,fun b hb=>?_⟩
            have h7:bidBad b=false:=by
              cases hbb:bidBad b with
              | false=>rfl
              | true=>exact absurd (List.any_eq_true.2 ⟨b,hb,hbb⟩) h4
            simp [bidBad] at h7;omega
  · intro h
    obtain ⟨h1,h2,h3,h4,h5,h6⟩:=h
    rw [if_neg (by omega),if_neg (by rw [wishErr_zero.2 ⟨h3,h4⟩];simp),if_neg (by omega),if_neg]
    rw [List.any_eq_true]
    rintro ⟨b,hb,hbb⟩
    have:=h6 b hb
    simp [bidBad] at hbb;omega
theorem checkL_zero {l : Lett} : checkL l = 0 ↔ ValidL l := by
  unfold checkL
  constructor
  · intro h
    split at h
    · cases h
    · split at h
      · cases h
      · split at h
        · rename_i h3;exact absurd h h3
        · rename_i h1 h2 h3
          split at h
          · cases h
          · exact ⟨by omega,by omega,fun s hs=>stlErr_zero.1 (firstNZ_zero.1 (Classical.not_not.1 h3) s hs),by omega,fun a ha=>appErr_zero.1 (firstNZ_zero.1 h a ha)⟩
  · intro h
    obtain ⟨h1,h2,h3,h4,h5⟩:=h
    rw [if_neg (by omega),if_neg (by omega),if_neg (by rw [firstNZ_zero.2 fun s hs=>stlErr_zero.2 (h3 s hs)];simp),if_neg (by omega)]
    exact firstNZ_zero.2 fun a ha=>appErr_zero.2 (h5 a ha)
def canAt (st:List Stl) (a:App) (i:Nat):Bool:=!(decide ((nth st (nth a.wishes i).toNat).rule=3)&&decide (nth a.bids i<(nth st (nth a.wishes i).toNat).least))
def wishL (st:List Stl) (a:App):List (Nat×Int):=((List.range a.wishes.length).filter (canAt st a)).map fun i=>(i,nth a.wishes i)
theorem filter_range_succ {p:Nat→Bool}{i:Nat}:(List.range (i+1)).filter p=(List.range i).filter p++if p i=true then [i] else []:=by
  rw [List.range_succ,List.filter_append]
  congr 1
  by_cases h:p i=true<;>simp [h]
theorem filter_range_get {p:Nat→Bool}{i n:Nat}(h:i<n) (hp:p i=true):((List.range n).filter p)[((List.range i).filter p).length]?=some i:=by
  have h1:List.range n=List.range i++List.range' i (n-i):=by
    rw [List.range_eq_range',List.range_eq_range',show n=i+(n-i) by omega,←List.range'_append_1];simp
  have h2:List.range' i (n-i)=i :: List.range' (i+1) (n-i-1):=by
    rw [show n-i=(n-i-1)+1 by omega,List.range'_succ];simp
  rw [h1,h2,List.filter_append,List.getElem?_append_right (Nat.le_refl _),Nat.sub_self,List.filter_cons,if_pos hp]
  rfl
theorem wishL_get {st:List Stl}{a:App}{i k:Nat}(h:i<a.wishes.length) (hc:canAt st a i=true) (hk:k=((List.range i).filter (canAt st a)).length):∃h' : k<(wishL st a).length,(wishL st a)[k]=(i,a.wishes[i]):=by
  have h1:=filter_range_get h hc
  rw [←hk] at h1
  have h2:(wishL st a)[k]?=some (i,a.wishes[i]):=by rw [wishL,List.getElem?_map,h1,←nth_get h];rfl
  obtain ⟨h3,h4⟩:=List.getElem?_eq_some_iff.1 h2
  exact ⟨h3,h4⟩
theorem wishL_len {st:List Stl}{a:App}:(wishL st a).length=((List.range a.wishes.length).filter (canAt st a)).length:=by simp [wishL]
theorem canAt_yes {st:List Stl}{a:App}{i:Nat}(h1:i<a.wishes.length) (h3:a.wishes[i].toNat<st.length) (hc:¬(st[a.wishes[i].toNat].rule=3∧nth a.bids i<st[a.wishes[i].toNat].least)):canAt st a i=true:=by
  rw [canAt,nth_get h1,nth_get h3]
  by_cases hx:st[a.wishes[i].toNat].rule=3<;>by_cases hz:nth a.bids i<st[a.wishes[i].toNat].least<;>simp_all
theorem cnt_all {st:List Stl}{a:App}{i k:Nat}(hk:k=((List.range i).filter (canAt st a)).length) (hi:i=a.wishes.length):k=(wishL st a).length:=by
  rw [wishL_len,hk,hi]
theorem canAt_no {st:List Stl}{a:App}{i:Nat}(h1:i<a.wishes.length) (h3:a.wishes[i].toNat<st.length) (hc:st[a.wishes[i].toNat].rule=3∧nth a.bids i<st[a.wishes[i].toNat].least):canAt st a i=false:=by
  rw [canAt,nth_get h1,nth_get h3]
  by_cases hx:st[a.wishes[i].toNat].rule=3<;>by_cases hz:nth a.bids i<st[a.wishes[i].toNat].least<;>simp_all
theorem cnt_yes {st:List Stl}{a:App}{i k:Nat}(hk:k=((List.range i).filter (canAt st a)).length) (hc:canAt st a i=true):k+1=((List.range (i+1)).filter (canAt st a)).length:=by
  rw [filter_range_succ,if_pos hc,List.length_append,←hk];rfl
theorem cnt_no {st:List Stl}{a:App}{i k:Nat}(hk:k=((List.range i).filter (canAt st a)).length) (hc:canAt st a i=false):k=((List.range (i+1)).filter (canAt st a)).length:=by
  rw [filter_range_succ,if_neg (by simp [hc]),List.append_nil,←hk]
theorem wishes_ok (l:Lett) (a:Int):ACalls Tryd.prog 24 [letV l,I a] [] (fun r o=>r = .clo 37 [.ptr 20000 0 0,.ptr 20001 0 0]∧o=[(20000,.row false 25 2 [letV l]),(20001,.row false 3 1 [I a])]):=by
 have F:=Fx.nil
 refine ent Tryd.func24 Tryd.ntmps24 Tryd.results24 ?_
 refine rK [2,3] ?_
 refine rK [4] ?_
 refine W.ret ?_
 exact er0 false [] [(20000,16),(20001,24)]
theorem wishes1_ok (l:Lett) (hv:ValidL l) (a:Nat) (ha:a<l.apps.length) (lp:Nat) (J:Nat→Fgn) (stop:Nat→Bool) (hy:∀(k:Nat) (hk:k<(wishL l.stalls l.apps[a]).length),(∀j,j<k→stop j=false)→YieldV Tryd.prog lp (J k) [I (wishL l.stalls l.apps[a])[k].1,I (wishL l.stalls l.apps[a])[k].2] (fun t J'=>t = !stop k∧J'=J (k+1))):ACalls Tryd.prog 37 [.yld 19999,.ptr 10000 0 0,.ptr 10001 0 0] [(19999,.ext lp (J 0)),(10000,.row false 25 2 [letV l]),(10001,.row false 3 1 [I a])] (fun _ o=>o=[(19999,.ext lp (J (rounds stop (wishL l.stalls l.apps[a]).length))),(10000,.row false 25 2 [letV l]),(10001,.row false 3 1 [I a])]):=by
 have F:=Fx.nil
 replace F:=F.add ha
 refine ent Tryd.func37 Tryd.ntmps37 Tryd.results37 ?_
 have qap:=hv.ap _ (List.getElem_mem ha)
 have qn:=hv.s8
 have qn2:=qap.wlen
 have hn8:l.apps[a].wishes.length≤8:=by omega
 have hlen:l.apps[a].bids.length=l.apps[a].wishes.length:=qap.len
 replace F:=F.add hn8 |>.add hlen
 refine rK [0,1,4] ?_
 refine rK [0,1,4,14,15,16] ?_
 refine W.block ?_
 refine lpa (α:=Nat×Nat) [0,1,4,14,15] [7,42] [19999] (fun x=>[(16,I x.1)]) (fun x=>[(19999,.ext lp (J x.2))]) (fun x=>x.1≤l.apps[a].wishes.length∧x.2=((List.range x.1).filter (canAt l.stalls l.apps[a])).length∧∀j,j<x.2→stop j=false) (fun x=>l.apps[a].wishes.length-x.1) (0,0) v0 ?_
 ·
  intro ⟨i,k⟩ hI0
  simp only [List.cons_append,List.nil_append]
  try dsimp only at hI0
  obtain ⟨hi,hk,hbef⟩:=hI0
  replace F:=F.add hi
  refine rK [0,1,4,14,15,16,17] ?_
  refine W.seqk fun K1 hK1=>?_
  refine it (fun hc1=>?_) (fun hc1=>?_)
  ·
   try simp at hc1
   replace F:=F.add hc1
   refine W.skip ?_
   refine hK1 _ ?_
   clear hK1 K1
   refine W.seqk fun K2 hK2=>?_
   refine W.block ?_
   have hiw:i<l.apps[a].wishes.length:=by omega
   have qw:=qap.wish _ (List.getElem_mem hiw)
   have hw0:0≤l.apps[a].wishes[i]:=qw.1
   have hw1:l.apps[a].wishes[i]<l.stalls.length:=qw.2
   have hw2:l.apps[a].wishes[i].toNat<l.stalls.length:=by omega
   replace F:=F.add hiw |>.add hw0 |>.add hw1 |>.add hw2
   refine rK [0,1,4,5,6,14,15,16] ?_
   refine rK [0,1,4,5,6,7,14,15,16] ?_
   refine W.seqk fun K3 hK3=>?_
   refine wD 11 [] [[],[0],[0,1],[1,0,2],[2,0,1,3],[3,1,0,2,4],[2,0,1,3],[6,4,2,0,1,3,5],[5,3,1,0,2,4,6,7],[2,0,1,3],[3,1,0,2,9],[9,10,7,6,4,2,0,1,3,5,8],[8,5,4,6,7,10,9,11,2,0,1,3]] ?_
   refine dB [([],[],[]),([],[true],[]),([],[true,true],[]),([],[true,true,true],[])] 7 4 ?_
   refine dX [32,35,36] [true,true,true,true] [] ?_
   refine dX [32,35,36] [true,true,true,true,true] [] ?_
   refine dX [30,31,35,36] [true,true,true,true,false,false] [] ?_
   refine dX [35,36] [true,true,true,true,true,true,true] [] ?_
   refine dX [35,36] [true,true,true,true,true,true,true,true] [] ?_
   refine dX [30,31,32,33,34] [true,true,true,true,false,false,false,false,false] [] ?_
   refine dX [30,31,32,33,34] [true,true,true,true,false,false,false,false,false,true] [] ?_
   refine dD ?_
   refine gX ?_
   refine oN 1 ?_
   refine oK [0,1,4,5,6,14,15,16,38] ?_
   refine it (fun hc2=>?_) (fun hc2=>?_)
   ·
    try simp at hc2
    replace F:=F.add hc2
    refine W.exit ?_
    refine hK2 _ ?_
    clear hK3 K3 hK2 K2
    refine rEw ?_
    refine ⟨(i+1,k),lf0, ?_,v0⟩
    ·
     exact ⟨by show i+1≤_;omega,cnt_no hk (canAt_no hiw hw2 (by simpa using hc2)),hbef⟩
   ·
    try simp at hc2
    replace F:=F.add hc2
    refine W.skip ?_
    refine hK3 _ ?_
    clear hK3 K3
    have qc:canAt l.stalls l.apps[a] i=true:=canAt_yes hiw hw2 (by simpa using hc2)
    obtain ⟨qk1,qk2⟩:=wishL_get hiw qc hk
    have qy:=hy k qk1 hbef
    rw [qk2] at qy
    refine W.seqR ?_
    refine oN 3 ?_
    refine WOps.yieldV rfl rfl rfl (by simp [ha,hn8,hlen,hi,hc1,hiw,hw0,hw1,hw2,hc2];all_goals first | rfl | exact ⟨rfl,rfl⟩ | exact ⟨rfl,rfl,rfl⟩) (by simp [ha,hn8,hlen,hi,hc1,hiw,hw0,hw1,hw2,hc2];all_goals first | rfl | exact ⟨rfl,rfl⟩ | exact ⟨rfl,rfl,rfl⟩) (by simp [ha,hn8,hlen,hi,hc1,hiw,hw0,hw1,hw2,hc2];all_goals first | rfl | exact ⟨rfl,rfl⟩ | exact ⟨rfl,rfl,rfl⟩) (by rfl) (qy) ?_
    refine WOps.norm (by simp [ha,hn8,hlen,hi,hc1,hiw,hw0,hw1,hw2,hc2];rfl) ?_
    refine oN 1 ?_
    refine oK [0,1,4,14,15,16,43] ?_
    refine it (fun hc3=>?_) (fun hc3=>?_)
    ·
     try simp at hc3
     replace F:=F.add hc3
     refine W.ret ?_
     refine br (tr (tr (br ?_)))
     clear hK2 K2
     refine er false [] [(19999,19999),(10000,10000),(10001,10001)] ?_
     rw [rounds_at qk1 (by assumption) hbef]
    ·
     try simp at hc3
     replace F:=F.add hc3
     refine W.skip ?_
     refine hK2 _ ?_
     clear hK2 K2
     refine rEw ?_
     refine ⟨(i+1,k+1),lf0, ?_,v0⟩
     ·
      refine ⟨by show i+1≤_;omega,cnt_yes hk qc,fun j hj=>?_⟩
      have hj' : j<k+1:=hj
      by_cases hjk:j=k
      · subst hjk;assumption
      · exact hbef j (by omega)
  ·
   try simp at hc1
   replace F:=F.add hc1
   refine W.exit ?_
   refine te (te (bs ?_))
   clear hK1 K1
   refine en false [] [(19999,19999),(10000,10000),(10001,10001)] ?_
   have qe:=cnt_all hk (by omega)
   rw [rounds_all (by rw [←qe];exact hbef),←qe]
end Go.Sim
