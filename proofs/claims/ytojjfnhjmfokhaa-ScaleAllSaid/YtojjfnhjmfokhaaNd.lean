/- Copies of tables: of any, and of a table of one row, whose row is its own. -/
import Derived.Test.YtojjfnhjmfokhaaLp
namespace Go.Sim
set_option maxHeartbeats 4000000
open Go.Proofs
set_option maxRecDepth 100000
set_option linter.unusedSimpArgs false
set_option linter.unusedVariables false
attribute [-simp] List.map_set List.map_take List.map_drop
attribute [simp] spn_eta
section
variable {P:Program}{Γ:TypeId→Option TI}
theorem Conc.lappend {st:St}{a:Act}{w:World}{e:Env}(h:Conc st a w e){t oty:TypeId}{ti te:TI}(hti:TIOk P t ti) (hd:ti.desc = .slice oty) (hte:TIOk P oty te) (h1:te.size=1) (rt:TypeId){id j nid n:Nat}{oty' : TypeId}{vx:Value}
    (hx:Rd w e (.own nid 0 1) vx) (hon:look nid st.objs=some (.row false oty' 1 [.own j 0 n])) (hu:unp id=true) (hne:j≠id) (hfree:e.get id=none) (hb:capOk 1 te.bytes=true) :
    ∃v w' e',(Builtin.append_ #[t,t] rt #[.slice none 0 0,vx]).run P w = .ok v w'∧Conc (st.renew id (.row false oty 1 [.own j 0 n])) a w' e'∧Fr w e w' e'∧Rd w' e' (.own id 0 1) v:=by
  obtain ⟨hb1,hb2⟩:=capOk_iff.1 hb
  have hsrc:∃ad c u,vx = .slice (some ad) 1 c∧w.cell? (ad.add 0)=some u∧u.oneCell'=true∧Rd w e (.own j 0 n) u:=by
    cases hx with
    | data hx=>cases hx
    | ownX _ _ _ mn hmn hg=>exact absurd hg (RowOk.ngone (h.sim.obj nid _ mn hon hmn))
    | own _ _ _ mn bn hmn hbn hc =>
      have hkn:RowOk w e mn false oty' 1 [.own j 0 n]:=h.sim.obj nid _ mn hon hmn
      have hknb:=hkn.blk
      simp only [hbn] at hknb
      obtain ⟨cn,n1,n2,n3⟩:=hknb
      obtain ⟨u,f1,f2,f3⟩:=n3 0 _ rfl 0 _ rfl
      refine ⟨_,_,u,rfl, ?_,f2,by simpa [CellRd] using f3⟩
      rw [addr_add,cell_of_row w bn _ cn oty' (0,0) n1]
      simpa using f1
  obtain ⟨ad,c,u,rfl,hcell,hone,hru⟩:=hsrc
  have hn1:[u].length=1 * te.size:=by rw [h1];rfl
  have hn2:∀(k:Nat) (x:Value),[u][k]?=some x→w.cell? (ad.add k)=some x:=fun k x hu'=>by
    cases k with
    | zero=>simp at hu';subst hu';exact hcell
    | succ k=>simp at hu'
  obtain ⟨v',w',g,cap',cur',hrun,hap⟩:=run_append_none (P:=P) (w:=w) (c:=c) (a0:=none) hti hd hte rt (by omega:0<1) hn1 hn2 hb1 (by unfold maxLen;omega)
  have hg:w.heap.size≤g:=hap.at_.elim (fun h1=>by cases h1) fun h=>h
  let m:Mta:=mt (some g) cap' 1
  have hfr:Fr w e w' (e.set id m):=by
    refine ⟨hap.os,hap.tape,hap.output,hap.grow,fun b hb _=>hap.keep b hb (by simp),fun b ho hb=>?_,rfl,Pinned.of fun j hj=>by simp [Env.set,unp_ne hu hj]⟩
    obtain ⟨j,mj,hj,hm⟩:=ho
    simp only [Env.set] at hj
    split at hj
    · cases hj
      have:=Mta.has_mk.1 hm
      cases this;omega
    · exact ⟨j,mj,hj,hm⟩
  refine ⟨v',w',e.set id m,hrun,h.renew id _ m hfr (fun b hb j m' hj hm' hb'=>?_) (fun j m' b hj hm' hb'=>hap.keep b (h.sim.blk_lt hm' hb') (by simp)) ?_ (fun b hb=>?_),hfr, ?_⟩
  · have e1:=Mta.has_mk.1 hb
    cases e1
    have:=h.sim.blk_lt hm' hb';omega
  · refine ⟨rfl,by simpa using hap.fits,hap.cap,fun x hx=>by simp at hx;subst hx;rfl,fun _ h=>h,cur',hap.blk,by rw [hap.size,h1],fun i x hx jj y hy=>?_⟩
    cases i with
    | succ i=>simp at hx
    | zero =>
      simp at hx;subst hx
      cases jj with
      | succ k=>simp [AV.cells] at hy
      | zero =>
        simp only [AV.cells,List.getElem?_cons_zero,Option.some.injEq] at hy;subst hy
        refine ⟨u, ?_,hone, ?_⟩
        · have:=hap.con 0 (by rw [h1];omega)
          simpa using this
        · simp only [CellRd,Bool.false_eq_true,if_false]
          exact hru.fr hfr fun k hk=>by simp only [AV.men,beq_iff_eq] at hk;subst hk;simp [Env.set,hne]
  · have e1:=Mta.has_mk.1 hb
    cases e1
    exact h.sim.new g hg
  · have:=Rd.own (w:=w') (e:=e.set id m) id 0 1 m g (by simp [Env.set]) rfl (by simpa [m] using hap.fits)
    rw [hap.val]
    simpa [m] using this
theorem WOps.lapp (hΓ:TOk P Γ){ops rest:List Oper}{K:St→Prop}{o:Oper}{st s2:St}{s x:Operand}{t oty oty' : TypeId}{ti te:TI}(id:Nat){j nid n:Nat}
    (ho:o.op = .call { callee:=.builtin .append,args:=#[s,x],argTypes:=#[t,t] }) (hg:o.guard=none) (hd:dstOk o st=true) (hti:Γ t=some ti) (hdd:ti.desc = .slice oty) (hte:Γ oty=some te) (h1:te.size=1)
    (hs:st.ev s = .val (.slice none 0 0)) (hx:st.ev x = .own nid 0 1) (hon:look nid st.objs=some (.row false oty' 1 [.own j 0 n])) (hc:(unp id&&!(j==id)&&(look id st.objs).isNone)=true) (hb:capOk 1 te.bytes=true)
    (hs2:(st.renew id (.row false oty 1 [.own j 0 n])).put o.dst (.own id 0 1)=s2) (hK:WOps P ops K rest s2):WOps P ops K (o :: rest) st:=by
  subst hs2
  simp only [Bool.and_eq_true,Bool.not_eq_true',beq_eq_false_iff_ne] at hc
  refine ⟨hd,true,by simp [wantedA,hg], ?_⟩
  simp only [if_true]
  intro rd a w e h next Q hnext
  have hrs:=h.ev s
  rw [hs] at hrs
  have hrx:=h.ev x
  rw [hx] at hrx
  have hfree:e.get id=none:=by
    have:=h.sim.dom id
    cases hl:look id st.objs with
    | some o=>rw [hl] at hc;simp at hc
    | none=>rw [hl] at this;simpa using this
  obtain ⟨v,w',e',hrun,hcc,hf,hr⟩:=h.lappend (P:=P) (hΓ _ _ hti) hdd (hΓ _ _ hte) h1 o.type hrx hon hc.1.1 hc.1.2 hfree hb
  refine ⟨fun _ _=>trivial, ?_⟩
  have hv:=hrs.val_inv
  have hst:(execOp a.eval o).run P w = .ok (.value v) w':=by simp [execOp,ho,resolve,invoke,builtin,hrun,hv]
  rw [semAt_ok hst (by simp)]
  exact hnext (.own id 0 1) _ v w' _ hK hcc hf hr
end
section
variable {P:Program}{Γ:TypeId→Option TI}
theorem WDraw.bldI (hΓ:TOk P Γ){ops rest:List Oper}{deps:List (List Nat)}{eff:List (Nat×List Nat)}{s0 v:St}{K:St→Prop}{n k:Nat}{ents ents' : List REnt}{o:Oper}{r r' : AV}{new new' : List (Nat×Obj)}(hv:viewSt ops deps eff s0 k ents=v) (hw:wantedA ops o v=some true) (he:evalN Γ o v=some (r,new)) (hi:imD r new=some (r',new'))
    (hf:(new.all fun x=>(look x.1 v.objs).isNone)=true) (hn:outIn [] o v new'=true) (hs:ents++[⟨o.dst,r',new'⟩]=ents') (h:WDraw P ops deps eff s0 K n rest (k+1) ents'):WDraw P ops deps eff s0 K (n+1) (o :: rest) k ents:=by
  subst hv;subst hs
  refine ⟨true,hw, ?_⟩
  simp only [if_true]
  exact ⟨_,_,(QStep.ofN hΓ he (fun x hx=>by simpa using List.all_eq_true.1 hf x hx)).imD hi,outIn_all (.inl rfl) hn,h⟩
end
theorem W.loop1 [M:Mode] (L ds ids:List Nat){c:Code}{st:St}{Q:Exit→St→Prop}(vt:List (Nat×AV)) (vo:List (Nat×Obj)){nt:Nat}{tm0:List (Nat×AV)}{ob0:List (Nat×Obj)}(hn:st.nt=nt) (h1:selT st.tmps L=tm0) (h2:dropO ds ids st.objs=ob0)
    (ha:W Try.prog c st (thenQ (fun s'=>Le s' ⟨nt,vt++tm0,vo++ob0⟩) Q)) (hb:W Try.prog c ⟨nt,vt++tm0,vo++ob0⟩ (thenQ (fun _=>False) Q)):W Try.prog (.loop c) st Q:=by
  refine W.loop (fun n s=>(n=1∧s=st)∨(n=0∧s=⟨nt,vt++tm0,vo++ob0⟩)) 1 ⟨st,Le.refl st,.inl ⟨rfl,rfl⟩⟩ ?_
  rintro n s (⟨rfl,rfl⟩ | ⟨rfl,rfl⟩)
  · refine ha.mono fun ex s' hs=>?_
    cases ex with
    | normal=>exact ⟨0,_,Nat.zero_lt_one,hs,.inr ⟨rfl,rfl⟩⟩
    | _=>exact hs
  · refine hb.mono fun ex s' hs=>?_
    cases ex with
    | normal=>exact hs.elim
    | _=>exact hs
theorem CopyTable_own (L:List (List Int)) (hL:L.length≤1000) (hl:∀l∈L,l.length≤1000):ACalls Try.prog 113 [.imm (L.map ints)] [] (fun r o=>r = .own 20000 0 L.length∧o=[(20000,.row true 30 1 (L.map ints))]):=by
 have F:=Fx.nil
 replace F:=F.add hL
 refine ent Try.func113 Try.ntmps113 Try.results113 ?_
 refine rK [0] ?_
 refine rK [0,3] ?_
 refine W.seqk fun K1 hK1=>?_
 refine rK [0,3,4] ?_
 refine W.block ?_
 refine sn 3 9000 30 1 ?_
 refine lpa (α:=Nat) [0] [7,16,17,18] [9000] (fun i=>[(4,I i),(3,.own 9000 0 i)]) (fun i=>[(9000,.row true 30 1 ((L.take i).map ints))]) (fun i=>i≤L.length) (fun i=>L.length-i) 0 v0 ?_
 ·
  intro i hI0
  simp only [List.cons_append,List.nil_append]
  try dsimp only at hI0
  replace F:=F.add hI0
  refine W.seqk fun K2 hK2=>?_
  refine rK [0,3,4,8] ?_
  refine it (fun hc1=>?_) (fun hc1=>?_)
  ·
   try simp at hc1
   replace F:=F.add hc1
   refine W.skip ?_
   refine hK2 _ ?_
   clear hK2 K2
   refine W.seqk fun K3 hK3=>?_
   refine W.block ?_
   have hil:i<L.length:=by omega
   have hrl:L[i].length≤1000:=hl _ (List.getElem_mem hil)
   have hcp:capOk (i+1) 24=true:=capOk_of (by omega) (by decide)
   replace F:=F.add hil |>.add hrl |>.add hcp
   refine W.region ?_
   refine oN 5 ?_
   refine oC [] ?_
   refine ct (CopyInts_imm L[i] (by omega)) ?_
   refine oN 3 ?_
   refine WOps.endK ?_
   refine hK3 _ ?_
   clear hK3 K3
   refine rEw ?_
   refine ⟨i+1,lf ?_ ?_,v0,v0⟩
   ·
    exact v1
   ·
    try (simp [Fx.get F])
    all_goals (
     rw [List.take_succ_eq_append_getElem hil,List.map_append];rfl
    )
  ·
   try simp at hc1
   replace F:=F.add hc1
   refine W.exit ?_
   refine hK1 _ ?_
   clear hK2 K2 hK1 K1
   refine rK [2] ?_
   refine W.ret ?_
   refine er false [] [(20000,9000)] ?_
   obtain rfl:i=L.length:=by omega
   rw [List.take_length];exact ⟨rfl,rfl⟩
theorem CopyTable_one (l:List Int) (hl:l.length≤1000):ACalls Try.prog 113 [.imm [ints l]] [] (fun r o=>r = .own 20000 0 1∧o=[(20000,.row false 30 1 [.own 20001 0 l.length]),(20001,.row true 3 1 (l.map I))]):=by
 have F:=Fx.nil
 replace F:=F.add hl
 refine ent Try.func113 Try.ntmps113 Try.results113 ?_
 refine rK [0] ?_
 refine rK [0,3] ?_
 refine W.seqk fun K1 hK1=>?_
 refine rK [0,3,4] ?_
 refine W.block ?_
 refine W.loop1 [0] [7,16,17,18] [9000,128] [(4,I 1),(3,.own 9000 0 1)] [(9000,.row false 30 1 [.own 128 0 l.length]),(128,.row true 3 1 (l.map I))] rfl (by simp [hl];rfl) (by simp [hl];rfl) ?_ ?_
 ·
  simp only [List.cons_append,List.nil_append]
  refine W.seqk fun K2 hK2=>?_
  refine rK [0,3,4,8] ?_
  refine cT ?_
  refine W.skip ?_
  refine hK2 _ ?_
  clear hK2 K2
  refine W.seqk fun K3 hK3=>?_
  refine W.block ?_
  refine W.region ?_
  refine oN 5 ?_
  refine oC [] ?_
  refine ct (CopyInts_ok l (by omega)) ?_
  refine WOps.raw hΓ 9002 rfl rfl rfl rfl rfl rfl rfl (by simp [hl];all_goals first | rfl | exact ⟨rfl,rfl⟩) (by decide) (by simp [hl];all_goals first | rfl | exact ⟨rfl,rfl⟩) ?_
  refine WOps.lapp hΓ 9000 rfl rfl rfl rfl rfl rfl rfl (by simp [hl];all_goals first | rfl | exact ⟨rfl,rfl⟩) (by simp [hl];all_goals first | rfl | exact ⟨rfl,rfl⟩) rfl (by rfl) (capOk_of (by omega) (by decide)) (by simp [hl];all_goals first | rfl | exact ⟨rfl,rfl⟩) ?_
  refine oN 1 ?_
  refine WOps.endK ?_
  refine hK3 _ ?_
  clear hK3 K3
  refine rEw ?_
  refine Le.fit (by simp [hl];rfl) (by rfl) (by rfl) (by rfl) v1 v1
 ·
  simp only [List.cons_append,List.nil_append]
  refine W.seqk fun K4 hK4=>?_
  refine rK [0,3,4,8] ?_
  refine cF ?_
  refine W.exit ?_
  refine hK1 _ ?_
  clear hK4 K4 hK1 K1
  refine rK [2] ?_
  refine W.ret ?_
  exact er0 false [] [(20000,9000),(20001,128)]
end Go.Sim
