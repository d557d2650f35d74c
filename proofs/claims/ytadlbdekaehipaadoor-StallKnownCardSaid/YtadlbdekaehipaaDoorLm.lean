/- The letting. -/
import Derived.Test.YtadlbdekaehipaaDoorLk
import Derived.Test.YtadlbdekaehipaaDoorPd
namespace Go.Sim
open Go.Proofs
set_option maxRecDepth 100000
set_option linter.unusedSimpArgs false
set_option linter.unusedVariables false
attribute [-simp] List.map_set List.map_take List.map_drop
theorem wishes1_nth {l:Lett}(hv:ValidL l){a:Nat}(ha:a<l.apps.length){U:List (Nat×Int)}(hU:U=wishL l.stalls (nth l.apps a)) (lp:Nat) (J:Nat→Fgn) (stop:Nat→Bool) (hy:∀(k:Nat) (hk:k<U.length),(∀j,j<k→stop j=false)→YieldV Tryd.prog lp (J k) [I U[k].1,I U[k].2] (fun t J'=>t = !stop k∧J'=J (k+1))) :
    ACalls Tryd.prog 37 [.yld 19999,.ptr 10000 0 0,.ptr 10001 0 0] [(19999,.ext lp (J 0)),(10000,.row false 25 2 [letV l]),(10001,.row false 3 1 [I a])]
      (fun _ o=>o=[(19999,.ext lp (J (rounds stop U.length))),(10000,.row false 25 2 [letV l]),(10001,.row false 3 1 [I a])]):=by
  rw [nth_get ha] at hU
  subst hU
  exact wishes1_ok l hv a ha lp J stop hy
theorem restOf_le64 {l:Lett}(hv:ValidL l) (nx:List Int):restOf l nx≤64:=by
  have h1:∀L:List Nat,(∀a∈L,a<l.apps.length)→(L.map fun a=>(nth l.apps a).wishes.length-(nth nx a).toNat).sum≤8 * L.length:=by
    intro L
    induction L with
    | nil=>intro _;simp
    | cons x L ih =>
      intro h
      have h2:=ih fun a ha=>h a (by simp [ha])
      have h3:=(nth_app hv (h x (by simp))).wlen
      have h4:=hv.s8
      simp only [List.map_cons,List.sum_cons,List.length_cons];omega
  have:=h1 (List.range l.apps.length) fun a ha=>List.mem_range.1 ha
  have h8:=hv.a8
  rw [List.length_range] at this
  unfold restOf;omega
theorem vK_ge0 {n0:Nat}{W:List (Nat×Int)}{k:Nat}:n0≤vK n0 W k:=by unfold vK;split<;>omega
set_option maxHeartbeats 4000000 in
theorem Let_ok (l:Lett) (hv:ValidL l):ACalls Tryd.prog 10 [letV l] [] (fun r o=>∃g,r = .tup [ints g,I 0]∧o=[]∧BestL l g):=by
 have F:=Fx.nil
 refine ent (M:=outMode) Tryd.func10 Tryd.ntmps10 Tryd.results10 ?_
 have h8:=hv.a8
 have hs8:=hv.s8
 have hs0:=hv.s0
 have hck:checkL l=0:=checkL_zero.2 hv
 have hmk:(l.apps.length:Int)≤16777216:=by omega
 have hdl:=drawL_len l.apps
 replace F:=F.add h8 |>.add hs8 |>.add hs0 |>.add hck |>.add hmk |>.add hdl
 refine rK (M:=outMode) [1,2,3,9,10,37,38] ?_
 refine W.scope (M:=outMode) ?_
 refine W.seqk (M:=outMode) fun K1 hK1=>?_
 refine W.seqR (M:=outMode) ?_
 refine oN 1 ?_
 refine oC [] ?_
 refine ct (Check_ok _) ?_
 refine oN 1 ?_
 refine oK (M:=outMode) [1,2,3,4,9,10,37,38] ?_
 refine rK (M:=outMode) [1,2,3,4,9,10,15,37,38] ?_
 refine cF (M:=outMode) ?_
 refine W.skip (M:=outMode) ?_
 refine hK1 _ ?_
 clear hK1 K1
 refine W.seqR (M:=outMode) ?_
 refine oN 4 ?_
 refine oC [] ?_
 refine ct (Repeat_ok l.stalls.length (by omega) (by omega)) ?_
 refine oN 2 ?_
 refine oK (M:=outMode) [1,2,3,5,9,10,37,38] ?_
 refine W.seqR (M:=outMode) ?_
 refine fz 136 ?_
 refine oN 1 ?_
 refine oC [] ?_
 refine ct (draw_ok l hv) ?_
 refine oN 2 ?_
 refine oK (M:=outMode) [1,2,3,5,6,9,10,37,38] ?_
 refine rK (M:=outMode) [1,2,3,5,6,7,9,10,37,38] ?_
 refine W.seqk (M:=outMode) fun K2 hK2=>?_
 refine W.label (M:=outMode) ?_
 refine hK2 _ ?_
 clear hK2 K2
 refine W.seqk (M:=outMode) fun K3 hK3=>?_
 refine W.block (M:=outMode) ?_
 refine lpa (M:=outMode) (α:=List Int×List Int×List Int×Nat) [1,2,3,5,6,7,37,38] [8,29,36,59,62,75,76] [48,168,184,216] (fun x=>[]) (fun x=>[(48,.row false 27 1 [.own 184 x.2.2.2 (x.2.2.1.length-x.2.2.2)]),(168,.row true 3 1 (x.1.map I)),(184,.row true 3 1 (x.2.2.1.map I)),(216,.row true 3 1 (x.2.1.map I))]) (fun x=>Asking l x.1 x.2.1 (x.2.2.1.drop x.2.2.2)∧x.2.2.2≤x.2.2.1.length∧x.2.2.1.length+restOf l x.2.1≤80) (fun x=>restOf l x.2.1+(x.2.2.1.length-x.2.2.2)) (List.replicate l.stalls.length (-1),List.replicate l.apps.length 0,drawL l.apps,0) ?_ ?_
 ·
  refine ⟨asking0 l,Nat.zero_le _, ?_⟩
  have:=restOf_le64 hv (List.replicate l.apps.length 0)
  show (drawL l.apps).length+restOf l (List.replicate l.apps.length 0)≤80
  omega
 ·
  intro ⟨g,nx,z,off⟩ hI0
  simp only [List.cons_append,List.nil_append]
  try dsimp only at hI0
  obtain ⟨kA,hzo,hzr⟩:=hI0
  replace F:=F.add hzo |>.add hzr
  have hgl:=kA.hl
  have hnl:=kA.nl
  replace F:=F.add hgl |>.add hnl
  refine W.seqk (M:=outMode) fun K4 hK4=>?_
  refine rK (M:=outMode) [1,2,3,5,6,7,9,10,30,37,38] ?_
  refine it (M:=outMode) (fun hc2=>?_) (fun hc2=>?_)
  ·
   try simp at hc2
   replace F:=F.add hc2
   refine W.skip (M:=outMode) ?_
   refine hK4 _ ?_
   clear hK4 K4
   refine W.block (M:=outMode) ?_
   have hzl:off<z.length:=by omega
   have qm:z[off]∈z.drop off:=by rw [List.drop_eq_getElem_cons hzl];exact List.mem_cons_self
   obtain ⟨a,qaz⟩:∃a:Nat,z[off]=(a:Int):=⟨z[off].toNat,by have:=(kA.ff _ qm).1;omega⟩
   have haz:=qaz
   have qdr:z.drop off=(a:Int) :: z.drop (off+1):=by rw [List.drop_eq_getElem_cons hzl,haz]
   have ha:a<l.apps.length:=by have:=(kA.ff _ qm).1;omega
   have hanx:a<nx.length:=by omega
   have ham:(a:Int)∈z.drop off:=by rw [qdr];exact List.mem_cons_self
   obtain ⟨n0,qn0⟩:∃n0,n0=(nth nx a).toNat:=⟨_,rfl⟩
   obtain ⟨U,qU⟩:∃U,U=wishL l.stalls (nth l.apps a):=⟨_,rfl⟩
   obtain ⟨nk,qnk⟩:∃nk:Nat→List Int,∀k,nk k=nx.set a ((vK n0 U k:Nat):Int):=⟨_,fun _=>rfl⟩
   have qsp:(∀k,k<U.length→stopL l g n0 a k=false)→Asking l g (nk U.length) (z.drop (off+1))∧restOf l (nk U.length)≤restOf l nx:=by
     intro hb
     rw [qnk]
     subst qU
     refine ⟨?_,restOf_le hanx (by rw [←qn0];exact vK_ge0)⟩
     subst qn0
     exact Asking.spent hv (qdr▸kA) hb
   have qac:∀k (hk:k<U.length),(∀j,j<k→stopL l g n0 a j=false)→stopL l g n0 a k=true→Asking l (g.set U[k].2.toNat (a:Int)) (nx.set a ((U[k].1+1:Nat):Int)) (z.drop (off+1)++if 0≤nth g U[k].2.toNat then [nth g U[k].2.toNat] else [])∧restOf l (nx.set a ((U[k].1+1:Nat):Int))<restOf l nx:=by
     intro k hk h1 h2
     subst qU
     refine ⟨?_,restOf_lt hanx ha ?_ ?_⟩
     · subst qn0
       exact Asking.accept hv (qdr▸kA) hk h1 h2
     · rw [stopL,nth_get hk,Bool.and_eq_true,decide_eq_true_eq] at h2
       have:=vK_ge0 (n0:=n0) (W:=wishL l.stalls (nth l.apps a)) (k:=k)
       omega
     · obtain ⟨i,hi,_,h3⟩:=wishL_mem hk
       rw [h3];simp only;omega
   have hnk0:nk 0=nx:=by rw [qnk,qn0];exact set_self hanx (kA.nr a ha).1
   replace F:=F.add hzl |>.add haz |>.add ha |>.add hanx |>.add ham |>.add hnk0
   refine rK (M:=outMode) [1,2,3,5,6,7,8,9,10,37,38] ?_
   refine W.seqk (M:=outMode) fun K5 hK5=>?_
   refine W.seqR (M:=outMode) ?_
   refine oN 2 ?_
   refine oC [] ?_
   refine ct (wishes_ok l a) ?_
   refine oK (M:=outMode) [1,2,3,5,6,7,8,9,10,36,37,38] ?_
   refine W.block (M:=outMode) ?_
   refine W.rangeS (by simp [h8,hs8,hs0,hck,hmk,hdl,hzo,hzr,hgl,hnl,hc2,hzl,haz,ha,hanx,ham,hnk0];all_goals first | rfl | exact ⟨rfl,rfl⟩ | exact ⟨rfl,rfl,rfl⟩) [(10000,288),(10001,289)] [(10002,8),(10003,40),(10005,48),(10006,56),(10007,64),(10008,168),(15000,184),(10009,216)] rfl rfl rfl (by simp [h8,hs8,hs0,hck,hmk,hdl,hzo,hzr,hgl,hnl,hc2,hzl,haz,ha,hanx,ham,hnk0];all_goals first | rfl | exact ⟨rfl,rfl⟩ | exact ⟨rfl,rfl,rfl⟩) rfl (by simp [h8,hs8,hs0,hck,hmk,hdl,hzo,hzr,hgl,hnl,hc2,hzl,haz,ha,hanx,ham,hnk0];all_goals first | rfl | exact ⟨rfl,rfl⟩ | exact ⟨rfl,rfl,rfl⟩) (by simp [h8,hs8,hs0,hck,hmk,hdl,hzo,hzr,hgl,hnl,hc2,hzl,haz,ha,hanx,ham,hnk0];all_goals first | rfl | exact ⟨rfl,rfl⟩ | exact ⟨rfl,rfl,rfl⟩) (by simp [h8,hs8,hs0,hck,hmk,hdl,hzo,hzr,hgl,hnl,hc2,hzl,haz,ha,hanx,ham,hnk0];all_goals first | rfl | exact ⟨rfl,rfl⟩ | exact ⟨rfl,rfl,rfl⟩) (fun k=>[(10002,.row false 25 2 [letV l]),(10003,.row false 27 1 [.own 10008 0 l.stalls.length]),(10005,.row false 27 1 [.own 15000 off (z.length-off)]),(10006,.row false 27 1 [.own 10009 0 l.apps.length]),(10007,.row false 3 1 [I a]),(10008,.row true 3 1 (g.map I)),(15000,.row true 3 1 (z.map I)),(10009,.row true 3 1 ((nk k).map I))]) (by simp [h8,hs8,hs0,hck,hmk,hdl,hzo,hzr,hgl,hnl,hc2,hzl,haz,ha,hanx,ham,hnk0];all_goals first | rfl | exact ⟨rfl,rfl⟩ | exact ⟨rfl,rfl,rfl⟩) [1,5,6,7,8] (by simp [h8,hs8,hs0,hck,hmk,hdl,hzo,hzr,hgl,hnl,hc2,hzl,haz,ha,hanx,ham,hnk0];all_goals first | rfl | exact ⟨rfl,rfl⟩ | exact ⟨rfl,rfl,rfl⟩) (by simp [h8,hs8,hs0,hck,hmk,hdl,hzo,hzr,hgl,hnl,hc2,hzl,haz,ha,hanx,ham,hnk0];all_goals first | rfl | exact ⟨rfl,rfl⟩ | exact ⟨rfl,rfl,rfl⟩) (by rfl) (U) (fun x=>[I x.1,I x.2]) (fun _=>rfl) (fun k=>stopL l g n0 a k) (.exit 1) rfl (fun k b=>b.1.drop b.2=z.drop (off+1)++(if 0≤nth g (nth U k).2.toNat then [nth g (nth U k).2.toNat] else [])∧b.2≤b.1.length∧b.1.length≤z.length+1) (fun k (b:List Int×Nat)=>[(10002,.row false 25 2 [letV l]),(10003,.row false 27 1 [.own 10008 0 l.stalls.length]),(10005,.row false 27 1 [.own 15000 b.2 (b.1.length-b.2)]),(10006,.row false 27 1 [.own 10009 0 l.apps.length]),(10007,.row false 3 1 [I a]),(10008,.row true 3 1 ((g.set (nth U k).2.toNat (a:Int)).map I)),(15000,.row true 3 1 (b.1.map I)),(10009,.row true 3 1 ((nx.set a (((nth U k).1+1:Nat):Int)).map I))]) ?_ (fun lp J hy=>wishes1_nth hv ha qU lp J _ hy) 1000 (by decide) ?_ ?_
   ·
    intro k hk hbef
    replace F:=F.add hk
    obtain ⟨w,qw,qU2,qw3,qw4⟩:∃w:Nat,w<l.stalls.length∧U[k].2=(w:Int)∧canS l.stalls (nth l.apps a) (w:Int)=true∧(nth l.apps a).wishes.idxOf (w:Int)=U[k].1:=by subst qU;exact wishL_at (nth_app hv ha) hk
    obtain ⟨p,qU1⟩:∃p,U[k].1=p:=⟨_,rfl⟩
    have hU1:=qU1
    have hU2:=qU2
    have hw:=qw
    obtain ⟨v,qv⟩:∃v,v=vK n0 U k:=⟨_,rfl⟩
    have hnkl:(nk k).length=l.apps.length:=by rw [qnk,List.length_set,hnl]
    have hnka:(nk k)[a]'(by omega)=(v:Int):=by simp only [qnk,List.getElem_set_self,qv]
    have hwg:w<g.length:=by omega
    have hp8:p<8:=by have h1:=canS_lt qw3;have h2:=(nth_app hv ha).wlen;omega
    have hst:stopL l g n0 a k=(decide (v≤p)&&!(decide (0≤g[w])&&decide (cmpL l w g[w].toNat a<0))):=by
      have e1:nth (wishL l.stalls (nth l.apps a)) k=U[k]:=by subst qU;exact nth_get hk
      rw [stopL,e1,hU2,hU1,←qU,←qv,Int.toNat_natCast,nth_get hwg]
    have hnth:nth U k=U[k]:=nth_get hk
    have hset:∀x,(nk k).set a x=nx.set a x:=fun x=>by rw [qnk,List.set_set]
    have qlt:p<v→nk (k+1)=nk k:=fun h=>by
      have e:vK n0 U (k+1)=vK n0 U k:=by rw [qv] at h;subst qU;exact vK_lt hk (by rw [qU1];exact h)
      rw [qnk,qnk,e]
    have qge:¬p<v→nk (k+1)=nx.set a ((p:Int)+1):=fun h=>by
      have e:vK n0 U (k+1)=p+1:=by rw [qv] at h;subst qU;rw [vK_ge hk (by rw [qU1];omega),qU1]
      rw [qnk,e];rfl
    replace F:=F.add hU1 |>.add hU2 |>.add hw |>.add hnkl |>.add hnka |>.add hwg |>.add hp8 |>.add hst |>.add hnth |>.add hset
    refine W.norm (M:=anyMode) (by simp [h8,hs8,hs0,hck,hmk,hdl,hzo,hzr,hgl,hnl,hc2,hzl,haz,ha,hanx,ham,hnk0,hk,hU1,hU2,hw,hnkl,hnka,hwg,hp8,hst,hnth,hset];rfl) ?_
    refine rK (M:=anyMode) [1,2,3,5,6,7,8,9,37,38] ?_
    refine rE (M:=anyMode) ?_
    refine ⟨rfl, ?_⟩
    refine W.block (M:=anyMode) ?_
    refine W.seqk (M:=anyMode) fun K6 hK6=>?_
    refine rK (M:=anyMode) [1,2,3,5,6,7,8,9,10,37,38,44] ?_
    refine it (M:=anyMode) (fun hc3=>?_) (fun hc3=>?_)
    ·
     try simp at hc3
     replace F:=F.add hc3
     refine W.exit (M:=anyMode) ?_
     refine thenQ_e ?_
     clear hK6 K6
     refine blockQ_s ?_
     refine RoundV.go ?_ (Le.fit (by simp [h8,hs8,hs0,hck,hmk,hdl,hzo,hzr,hgl,hnl,hc2,hzl,haz,ha,hanx,ham,hnk0,hk,hU1,hU2,hw,hnkl,hnka,hwg,hp8,hst,hnth,hset,hc3];rfl) (by rfl) (by rfl) (by rfl) (by trivial) ?_)
     ·
      exact v0
     ·
      try (simp [Fx.get F])
      all_goals (
       (rw [qlt (by omega)];done)
      )
    ·
     try simp at hc3
     replace F:=F.add hc3
     refine W.skip (M:=anyMode) ?_
     refine hK6 _ ?_
     clear hK6 K6
     refine rKw (M:=anyMode) [1,2,3,5,6,7,8,9,10,37,38] ?_
     by_cases hge:0≤g[w]
     ·
      replace F:=F.add hge
      obtain ⟨b,qgb⟩:∃b:Nat,g[w]=(b:Int):=⟨g[w].toNat,by omega⟩
      have hgb:=qgb
      have qhb:holdL g w=some b:=holdL_some.2 ⟨hwg,hgb⟩
      have qok:=kA.da.valid.ok w b qhb
      have hbl:b<l.apps.length:=qok.2.1
      replace F:=F.add hgb |>.add hbl
      refine rK (M:=anyMode) [1,2,3,5,6,7,8,9,10,11,37,38] ?_
      refine W.seqk (M:=anyMode) fun K7 hK7=>?_
      refine wD (M:=anyMode) 8 [] [[],[0],[0,1],[1,0,2],[1,0,2],[4,2,0,1,3],[1,0,2],[1,0,2],[7,6,3,1,0,2,4,5],[5,4,2,0,1,3,6,7,8],[8,7,6,3,4,5,9,1,0,2]] ?_
      refine dB [([],[],[]),([],[true],[]),([],[true,true],[])] 5 3 ?_
      refine dT [58,60,61] [true,true,true] [] ?_
      refine dT [57,60,61] [true,true,true,false] [] ?_
      refine dG [60,61] [true,true,true,true,true] [] [] ?_
      refine cd (queueOf_ok _ hv _) ?_
      refine dT [57,58,59,61] [true,true,true,false,false,false] [] ?_
      refine dT [57,58,59,60] [true,true,true,false,false,false,false] [] ?_
      refine dD ?_
      refine gC [(10000,472)] ?_
      refine ct (compare_ok l hv w b a hw hbl ha (fun _=>⟨by rw [←nth_get hbl];exact qok.2.2,by rw [←nth_get ha];exact qw3⟩)) ?_
      refine gT ?_
      refine oN 1 ?_
      refine oK (M:=anyMode) [1,2,3,5,6,7,8,9,10,11,37,38,64] ?_
      refine it (M:=anyMode) (fun hc4=>?_) (fun hc4=>?_)
      ·
       try simp at hc4
       replace F:=F.add hc4
       refine W.exit (M:=anyMode) ?_
       refine thenQ_e ?_
       clear hK7 K7
       refine blockQ_s ?_
       refine RoundV.go ?_ (Le.fit (by simp [h8,hs8,hs0,hck,hmk,hdl,hzo,hzr,hgl,hnl,hc2,hzl,haz,ha,hanx,ham,hnk0,hk,hU1,hU2,hw,hnkl,hnka,hwg,hp8,hst,hnth,hset,hc3,hge,hgb,hbl,hc4];rfl) (by rfl) (by rfl) (by rfl) (by trivial) ?_)
       ·
        exact v0
       ·
        try (simp [Fx.get F])
        all_goals (
         (rw [qge (by omega)];done)
        )
      ·
       try simp at hc4
       replace F:=F.add hc4
       refine W.skip (M:=anyMode) ?_
       refine hK7 _ ?_
       clear hK7 K7
       refine rK (M:=anyMode) [1,2,3,5,6,7,9,10,11,37,38] ?_
       refine W.seqR (M:=anyMode) ?_
       refine oN 1 ?_
       refine WOps.sliceO hΓ (I) (z) 1 (q:=.i64) rfl rfl rfl rfl rfl rfl (by simp [h8,hs8,hs0,hck,hmk,hdl,hzo,hzr,hgl,hnl,hc2,hzl,haz,ha,hanx,ham,hnk0,hk,hU1,hU2,hw,hnkl,hnka,hwg,hp8,hst,hnth,hset,hc3,hge,hgb,hbl,hc4];all_goals first | rfl | exact ⟨rfl,rfl⟩ | exact ⟨rfl,rfl,rfl⟩) (by simp [h8,hs8,hs0,hck,hmk,hdl,hzo,hzr,hgl,hnl,hc2,hzl,haz,ha,hanx,ham,hnk0,hk,hU1,hU2,hw,hnkl,hnka,hwg,hp8,hst,hnth,hset,hc3,hge,hgb,hbl,hc4];all_goals first | rfl | exact ⟨rfl,rfl⟩ | exact ⟨rfl,rfl,rfl⟩) (by simp [h8,hs8,hs0,hck,hmk,hdl,hzo,hzr,hgl,hnl,hc2,hzl,haz,ha,hanx,ham,hnk0,hk,hU1,hU2,hw,hnkl,hnka,hwg,hp8,hst,hnth,hset,hc3,hge,hgb,hbl,hc4];all_goals first | rfl | exact ⟨rfl,rfl⟩ | exact ⟨rfl,rfl,rfl⟩) (by first | omega | (simp;omega)) (by first | omega | (simp;omega)) rfl fun z2 off2 hz2 ho2 hl2=>?_
       refine WOps.norm (by simp [h8,hs8,hs0,hck,hmk,hdl,hzo,hzr,hgl,hnl,hc2,hzl,haz,ha,hanx,ham,hnk0,hk,hU1,hU2,hw,hnkl,hnka,hwg,hp8,hst,hnth,hset,hc3,hge,hgb,hbl,hc4];rfl) ?_
       refine oN 1 ?_
       refine oK (M:=anyMode) [1,2,3,5,6,7,9,10,11,37,38] ?_
       refine W.seqk (M:=anyMode) fun K8 hK8=>?_
       refine rK (M:=anyMode) [1,2,3,5,6,7,9,10,11,37,38,72] ?_
       refine cT (M:=anyMode) ?_
       refine W.region (M:=anyMode) ?_
       refine oN 3 ?_
       refine WOps.appO hΓ (I) (z2) ([(b:Int)]) rfl rfl rfl rfl rfl rfl (by simp [h8,hs8,hs0,hck,hmk,hdl,hzo,hzr,hgl,hnl,hc2,hzl,haz,ha,hanx,ham,hnk0,hk,hU1,hU2,hw,hnkl,hnka,hwg,hp8,hst,hnth,hset,hc3,hge,hgb,hbl,hc4];all_goals first | rfl | exact ⟨rfl,rfl⟩ | exact ⟨rfl,rfl,rfl⟩) (by simp [h8,hs8,hs0,hck,hmk,hdl,hzo,hzr,hgl,hnl,hc2,hzl,haz,ha,hanx,ham,hnk0,hk,hU1,hU2,hw,hnkl,hnka,hwg,hp8,hst,hnth,hset,hc3,hge,hgb,hbl,hc4];all_goals first | rfl | exact ⟨rfl,rfl⟩ | exact ⟨rfl,rfl,rfl⟩) (by first | omega | (simp;omega)) (by simp) (by first | decide | simp) (by simp [h8,hs8,hs0,hck,hmk,hdl,hzo,hzr,hgl,hnl,hc2,hzl,haz,ha,hanx,ham,hnk0,hk,hU1,hU2,hw,hnkl,hnka,hwg,hp8,hst,hnth,hset,hc3,hge,hgb,hbl,hc4];all_goals first | rfl | exact ⟨rfl,rfl⟩ | exact ⟨rfl,rfl,rfl⟩) (by simp [h8,hs8,hs0,hck,hmk,hdl,hzo,hzr,hgl,hnl,hc2,hzl,haz,ha,hanx,ham,hnk0,hk,hU1,hU2,hw,hnkl,hnka,hwg,hp8,hst,hnth,hset,hc3,hge,hgb,hbl,hc4];(try (simp (disch:=omega) only [wrap_i64,mul_i64,capOk_of];(try simp [h8,hs8,hs0,hck,hmk,hdl,hzo,hzr,hgl,hnl,hc2,hzl,haz,ha,hanx,ham,hnk0,hk,hU1,hU2,hw,hnkl,hnka,hwg,hp8,hst,hnth,hset,hc3,hge,hgb,hbl,hc4])));all_goals first | rfl | exact capOk_of (by omega) (by decide)) rfl fun z3 off3 hz3 ho3 hl3=>?_
       refine WOps.norm (by simp [h8,hs8,hs0,hck,hmk,hdl,hzo,hzr,hgl,hnl,hc2,hzl,haz,ha,hanx,ham,hnk0,hk,hU1,hU2,hw,hnkl,hnka,hwg,hp8,hst,hnth,hset,hc3,hge,hgb,hbl,hc4];rfl) ?_
       refine oN 1 ?_
       refine WOps.endK ?_
       refine hK8 _ ?_
       clear hK8 K8
       refine W.exit (M:=anyMode) ?_
       refine blockQ_d rfl ?_
       refine RoundV.out ((z3,off3)) ?_ ?_ rfl (Le.fit (by simp [h8,hs8,hs0,hck,hmk,hdl,hzo,hzr,hgl,hnl,hc2,hzl,haz,ha,hanx,ham,hnk0,hk,hU1,hU2,hw,hnkl,hnka,hwg,hp8,hst,hnth,hset,hc3,hge,hgb,hbl,hc4];rfl) (by rfl) (by rfl) (by rfl) (by trivial) ?_)
       ·
        exact v0
       ·
        (show z3.drop off3=_∧off3≤z3.length∧z3.length≤z.length+1
         simp only [List.length_cons,List.length_nil] at hl3 ho3
         exact ⟨by rw [hz3,hz2,hnth,hU2,Int.toNat_natCast,nth_get hwg,if_pos hge,hgb],by omega,by omega⟩)
       ·
        try (simp [Fx.get F])
        all_goals (
         (simp only [List.length_cons,List.length_nil] at ho3;omega)
        )
     ·
      replace F:=F.add hge
      refine rK (M:=anyMode) [1,2,3,5,6,7,8,9,10,11,37,38] ?_
      refine W.seqk (M:=anyMode) fun K9 hK9=>?_
      refine wD (M:=anyMode) 8 [] [[],[0],[0,1],[1,0,2],[1,0,2],[4,2,0,1,3],[1,0,2],[1,0,2],[7,6,3,1,0,2,4,5],[5,4,2,0,1,3,6,7,8],[8,7,6,3,4,5,9,1,0,2]] ?_
      refine dB [([],[],[]),([],[true],[]),([],[true,true],[])] 5 3 ?_
      refine dF [some 57,some 58,some 59,some 60,some 61] 2 56 true 0 ?_
      refine dD ?_
      refine gF ?_
      refine gF ?_
      refine oN 1 ?_
      refine oK (M:=anyMode) [1,2,3,5,6,7,8,9,10,11,37,38,64] ?_
      refine cF (M:=anyMode) ?_
      refine W.skip (M:=anyMode) ?_
      refine hK9 _ ?_
      clear hK9 K9
      refine rK (M:=anyMode) [1,2,3,5,6,7,9,10,11,37,38] ?_
      refine W.seqR (M:=anyMode) ?_
      refine oN 1 ?_
      refine WOps.sliceO hΓ (I) (z) 1 (q:=.i64) rfl rfl rfl rfl rfl rfl (by simp [h8,hs8,hs0,hck,hmk,hdl,hzo,hzr,hgl,hnl,hc2,hzl,haz,ha,hanx,ham,hnk0,hk,hU1,hU2,hw,hnkl,hnka,hwg,hp8,hst,hnth,hset,hc3,hge];all_goals first | rfl | exact ⟨rfl,rfl⟩ | exact ⟨rfl,rfl,rfl⟩) (by simp [h8,hs8,hs0,hck,hmk,hdl,hzo,hzr,hgl,hnl,hc2,hzl,haz,ha,hanx,ham,hnk0,hk,hU1,hU2,hw,hnkl,hnka,hwg,hp8,hst,hnth,hset,hc3,hge];all_goals first | rfl | exact ⟨rfl,rfl⟩ | exact ⟨rfl,rfl,rfl⟩) (by simp [h8,hs8,hs0,hck,hmk,hdl,hzo,hzr,hgl,hnl,hc2,hzl,haz,ha,hanx,ham,hnk0,hk,hU1,hU2,hw,hnkl,hnka,hwg,hp8,hst,hnth,hset,hc3,hge];all_goals first | rfl | exact ⟨rfl,rfl⟩ | exact ⟨rfl,rfl,rfl⟩) (by first | omega | (simp;omega)) (by first | omega | (simp;omega)) rfl fun z2 off2 hz2 ho2 hl2=>?_
      refine WOps.norm (by simp [h8,hs8,hs0,hck,hmk,hdl,hzo,hzr,hgl,hnl,hc2,hzl,haz,ha,hanx,ham,hnk0,hk,hU1,hU2,hw,hnkl,hnka,hwg,hp8,hst,hnth,hset,hc3,hge];rfl) ?_
      refine oN 1 ?_
      refine oK (M:=anyMode) [1,2,3,5,6,7,9,10,11,37,38] ?_
      refine W.seqk (M:=anyMode) fun K10 hK10=>?_
      refine rK (M:=anyMode) [1,2,3,5,6,7,9,10,11,37,38,72] ?_
      refine cF (M:=anyMode) ?_
      refine W.skip (M:=anyMode) ?_
      refine hK10 _ ?_
      clear hK10 K10
      refine W.exit (M:=anyMode) ?_
      refine blockQ_d rfl ?_
      refine RoundV.out ((z2,off2)) ?_ ?_ rfl (Le.fit (by simp [h8,hs8,hs0,hck,hmk,hdl,hzo,hzr,hgl,hnl,hc2,hzl,haz,ha,hanx,ham,hnk0,hk,hU1,hU2,hw,hnkl,hnka,hwg,hp8,hst,hnth,hset,hc3,hge];rfl) (by rfl) (by rfl) (by rfl) (by trivial) ?_)
      ·
       exact v0
      ·
       (show z2.drop off2=_∧off2≤z2.length∧z2.length≤z.length+1
        exact ⟨by rw [hz2,hnth,hU2,Int.toNat_natCast,nth_get hwg,if_neg hge,List.append_nil],by omega,by omega⟩)
      ·
       try (simp [Fx.get F])
       all_goals (
        omega
       )
   ·
    intro hbef
    refine ⟨(by simp [h8,hs8,hs0,hck,hmk,hdl,hzo,hzr,hgl,hnl,hc2,hzl,haz,ha,hanx,ham,hnk0];all_goals first | rfl | exact ⟨rfl,rfl⟩ | exact ⟨rfl,rfl,rfl⟩), ?_⟩
    refine Qnorm (by simp [h8,hs8,hs0,hck,hmk,hdl,hzo,hzr,hgl,hnl,hc2,hzl,haz,ha,hanx,ham,hnk0];rfl) ?_
    refine hK5 _ ?_
    clear hK5 K5
    refine W.region (M:=outMode) ?_
    refine oN 1 ?_
    refine WOps.sliceO hΓ (I) (z) 1 (q:=.i64) rfl rfl rfl rfl rfl rfl (by simp [h8,hs8,hs0,hck,hmk,hdl,hzo,hzr,hgl,hnl,hc2,hzl,haz,ha,hanx,ham,hnk0];all_goals first | rfl | exact ⟨rfl,rfl⟩ | exact ⟨rfl,rfl,rfl⟩) (by simp [h8,hs8,hs0,hck,hmk,hdl,hzo,hzr,hgl,hnl,hc2,hzl,haz,ha,hanx,ham,hnk0];all_goals first | rfl | exact ⟨rfl,rfl⟩ | exact ⟨rfl,rfl,rfl⟩) (by simp [h8,hs8,hs0,hck,hmk,hdl,hzo,hzr,hgl,hnl,hc2,hzl,haz,ha,hanx,ham,hnk0];all_goals first | rfl | exact ⟨rfl,rfl⟩ | exact ⟨rfl,rfl,rfl⟩) (by first | omega | (simp;omega)) (by first | omega | (simp;omega)) rfl fun z2 off2 hz2 ho2 hl2=>?_
    refine WOps.norm (by simp [h8,hs8,hs0,hck,hmk,hdl,hzo,hzr,hgl,hnl,hc2,hzl,haz,ha,hanx,ham,hnk0];rfl) ?_
    refine oN 1 ?_
    refine WOps.endK ?_
    refine bn ?_
    refine ⟨(g,nk U.length,z2,off2),lf0, ?_, ?_⟩
    ·
     (obtain ⟨q1,q2⟩:=qsp hbef
      refine ⟨?_, ?_, ?_⟩
      · show Asking l g (nk U.length) (z2.drop off2)
        rw [hz2];exact q1
      · show off2≤z2.length
        omega
      · show z2.length+restOf l (nk U.length)≤80
        omega)
    ·
     (obtain ⟨q1,q2⟩:=qsp hbef
      show restOf l (nk U.length)+(z2.length-off2)<_
      omega)
   ·
    intro k hk hstop hbef b hbx
    replace F:=F.add hk
    have hnth:nth U k=U[k]:=nth_get hk
    have qak:=qac k hk hbef hstop
    replace F:=F.add hnth
    refine ⟨(by simp [h8,hs8,hs0,hck,hmk,hdl,hzo,hzr,hgl,hnl,hc2,hzl,haz,ha,hanx,ham,hnk0,hk,hnth];all_goals first | rfl | exact ⟨rfl,rfl⟩ | exact ⟨rfl,rfl,rfl⟩), ?_⟩
    refine Qnorm (by simp [h8,hs8,hs0,hck,hmk,hdl,hzo,hzr,hgl,hnl,hc2,hzl,haz,ha,hanx,ham,hnk0,hk,hnth];rfl) ?_
    refine bd (te (bs ?_))
    clear hK5 K5
    refine ⟨(g.set (nth U k).2.toNat (a:Int),nx.set a (((nth U k).1+1:Nat):Int),b.1,b.2),lf0, ?_, ?_⟩
    ·
     (obtain ⟨b1,b2,b3⟩:=hbx
      rw [hnth] at b1 ⊢
      refine ⟨?_,b2, ?_⟩
      · show Asking l (g.set U[k].2.toNat (a:Int)) (nx.set a ((U[k].1+1:Nat):Int)) (b.1.drop b.2)
        rw [b1];exact qak.1
      · show b.1.length+restOf l (nx.set a ((U[k].1+1:Nat):Int))≤80
        have:=qak.2
        omega)
    ·
     (obtain ⟨b1,b2,b3⟩:=hbx
      rw [hnth] at b1 ⊢
      show restOf l (nx.set a ((U[k].1+1:Nat):Int))+(b.1.length-b.2)<_
      have q2:=qak.2
      have q3:=congrArg List.length b1
      rw [List.length_drop,List.length_append,List.length_drop] at q3
      have q4:(if 0≤nth g U[k].2.toNat then [nth g U[k].2.toNat] else []).length≤1:=by split<;>simp
      omega)
  ·
   try simp at hc2
   replace F:=F.add hc2
   refine W.exit (M:=outMode) ?_
   refine hK3 _ ?_
   clear hK4 K4 hK3 K3
   refine rK (M:=outMode) [2,3] ?_
   refine W.ret (M:=outMode) ?_
   refine ngr ?_
   refine er false [168] [] ?_
   have e1:z.drop off=[]:=List.drop_of_length_le (by omega)
   have e2:g.take l.stalls.length=g:=List.take_of_length_le (by omega)
   rw [e1] at kA
   exact ⟨g,by rw [e2],rfl,⟨kA.hl,kA.hr,kA.best hv⟩⟩
end Go.Sim
