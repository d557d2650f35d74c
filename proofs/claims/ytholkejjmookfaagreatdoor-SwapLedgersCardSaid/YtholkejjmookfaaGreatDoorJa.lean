/- From contracts over abstract values to the given statements: how arguments are read, what a law hands back. -/
import Derived.Test.YtholkejjmookfaaGreatDoorMb
import Derived.Carry
import Derived.ProofKit
import Derived.WalkKit
namespace Go.Sim
open Go.RowKit Go.ChangeShapes Go.WideShapes Go.ChangeAt
section
variable {H:Type}{enc:TypeId×Value→H}{P:Program}{W:World}
def env0:Env:={ get:=fun _=>none,pr:=fun _=>True,bs:=0 }
theorem env0_q (b:Nat):env0.q b:=⟨trivial,fun ⟨_,_,h,_⟩=>by cases h⟩
def CellsOk (W:World) (x:AV) (cs:List Value):Prop:=cs.length=x.cells.length∧∀(j:Nat) (y:AV),x.cells[j]?=some y→∃v,cs[j]?=some v∧v.oneCell'=true∧RdD W env0.q y v
def ElemRd (enc:TypeId×Value→H) (P:Program) (W:World) (e:TypeId){α:Type}(f:α→AV) (good:α→Prop):Prop:=
  ∀fuel cs x,DataW.trod enc P W 0 (fun _=>true) true fuel e cs=some x→∃a,good a∧CellsOk W (f a) cs
theorem cell_spot {a:Addr}{i:Nat}{v:Value}(h:W.cell? (a.add i)=some v):a.add i=⟨a.block,a.off+i,none⟩:=by
  have hspot:(a.add i).spot=none:=by
    cases hsp:(a.add i).spot with
    | none=>rfl
    | some s =>
      simp only [World.cell?] at h
      split at h
      · simp [hsp] at h
      · cases h
  unfold Addr.add at hspot ⊢
  split
  · rename_i h0
    subst h0
    rw [if_pos rfl] at hspot
    cases a
    simp_all
  · rfl
theorem elem_int {e:TypeId}(he:P.underlying e=some (.int .i64)):ElemRd enc P W e I (fun n=>(Lit.int .i64 n).wf=true):=by
  intro fuel cs x h
  obtain ⟨n,rfl,_,hw⟩:=DataW.trod_int he h
  refine ⟨n,hw,rfl,fun j y hy=>?_⟩
  cases j with
  | zero=>simp [AV.cells] at hy;subst hy;exact ⟨_,rfl,rfl,.val _⟩
  | succ j=>simp [AV.cells] at hy
theorem elem_pair {e ei:TypeId}{f0 f1:Field}(he:P.underlying e=some (.struct #[f0,f1])) (h0:f0.type=ei) (h1:f1.type=ei) (hi:P.underlying ei=some (.int .i64)) (o0:f0.offset=0) (o1:f1.offset=1) (hc:P.cellsOf ei=1) (hcs:P.cellsOf e=2) :
    ElemRd enc P W e (fun x:Int×Int=>AV.agg [I x.1,I x.2]) (fun x=>(Lit.int .i64 x.1).wf=true∧(Lit.int .i64 x.2).wf=true):=by
  intro fuel cs x h
  obtain ⟨y0,y1,n,_,hl,k0,k1⟩:=trod_struct2 he h
  rw [h0,o0,hc] at k0
  rw [h1,o1,hc] at k1
  obtain ⟨a,ha,_,wa⟩:=DataW.trod_int hi k0
  obtain ⟨b,hb,_,wb⟩:=DataW.trod_int hi k1
  rw [hcs] at hl
  obtain ⟨c0,c1,rfl⟩:∃c0 c1,cs=[c0,c1]:=by
    match cs,hl with
    | [c0,c1],_=>exact ⟨c0,c1,rfl⟩
  simp at ha hb
  subst ha;subst hb
  refine ⟨(a,b),⟨wa,wb⟩,rfl,fun j y hy=>?_⟩
  match j,hy with
  | 0,hy=>simp [AV.cells] at hy;subst hy;exact ⟨_,rfl,rfl,.val _⟩
  | 1,hy=>simp [AV.cells] at hy;subst hy;exact ⟨_,rfl,rfl,.val _⟩
theorem slice_rd {t e:TypeId}{sz:Nat}(ht:P.underlying t=some (.slice e)) (hc:P.cellsOf e=sz) (hz:0<sz){α:Type}{f:α→AV}{good:α→Prop}(hf:∀a,(f a).cells.length=sz) (he:ElemRd enc P W e f good)
    {fuel:Nat}{v:Value}{x:DataW H×List MemPlace}(h:DataW.trod enc P W 0 (fun _=>true) true fuel t [v]=some x):∃l:List α,(∀a∈l,good a)∧RdD W env0.q (.imm (l.map f)) v∧v.oneCell'=true:=by
  rcases DataW.trod_slice ht h with ⟨h0,_⟩ | ⟨a,len,cap,elems,rest,n,_,h0,_,hb,hl,hm,hlen,hel,_,_⟩
  · cases h0
    exact ⟨[],by simp,.imm0 none 0,rfl⟩
  · cases h0
    rw [hc] at hel
    by_cases hl0:len=0
    · subst hl0
      exact ⟨[],by simp,.imm0 (some a) cap,rfl⟩
    have each:∀i,i<len→∃y:α,good y∧∃cs,W.cells? 0 (a.add (i * sz)) sz=some cs∧CellsOk W (f y) cs:=by
      intro i hi
      have hel':=hel i hi
      rw [List.getElem?_eq_getElem (by omega),Option.bind_eq_some_iff] at hel'
      obtain ⟨cs,h1,h2⟩:=hel'
      obtain ⟨y,hy,hy2⟩:=he _ _ _ h2
      exact ⟨y,hy,cs,h1,hy2⟩
    let l:List α:=(List.range len).attach.map fun i=>Classical.choose (each i.1 (List.mem_range.1 i.2))
    have hl1:l.length=len∧∀i (h:i<len),l[i]?=some (Classical.choose (each i h)):=by
      refine ⟨by simp [l],fun i h=>?_⟩
      have hi:i<l.length:=by simp [l];exact h
      rw [List.getElem?_eq_getElem hi]
      simp [l]
    obtain ⟨hln,hget⟩:=hl1
    have hspot:a.spot=none:=by
      obtain ⟨cs,h1,h2,_⟩:=(Classical.choose_spec (each 0 (by omega))).2
      obtain ⟨_,k2,k3⟩:=World.cells?_some h1
      have:=k3 0 hz
      rw [List.getElem?_eq_getElem (by omega)] at this
      have hs:=cell_spot this
      simp [Addr.add] at hs
      cases a;simp_all
    obtain ⟨b,off,sp⟩:=a
    simp only at hspot
    subst hspot
    refine ⟨l,fun y hy=>?_, ?_,rfl⟩
    · obtain ⟨i,hi⟩:=List.mem_iff_getElem?.1 hy
      have hlt:i<len:=by rw [←hln];exact (List.getElem?_eq_some_iff.1 hi).1
      rw [hget i hlt] at hi
      cases hi
      exact (Classical.choose_spec (each i hlt)).1
    · have hlm:(l.map f).length=len:=by simp [hln]
      have cell:∀i (h:i<len) (j:Nat) (y:AV),(f (Classical.choose (each i h))).cells[j]?=some y→∃v,W.cell? ⟨b,off+i * sz+j,none⟩=some v∧v.oneCell'=true∧RdD W env0.q y v:=by
        intro i h j y hy
        obtain ⟨cs,h1,h2,h3⟩:=(Classical.choose_spec (each i h)).2
        obtain ⟨v,g1,g2,g3⟩:=h3 j y hy
        obtain ⟨_,k2,k3⟩:=World.cells?_some h1
        have hj:j<sz:=by rw [←k2];exact (List.getElem?_eq_some_iff.1 g1).1
        have:=k3 j hj
        rw [g1] at this
        refine ⟨v, ?_,g2,g3⟩
        rw [←this,addr_add,addr_add]
      have:=RdD.imm (w:=W) (q:=env0.q) (l.map f) b off cap sz (fun i j=>(W.cell? ⟨b,off+i * sz+j,none⟩).getD undef) (by intro hn;rw [hn] at hlm;simp at hlm;omega) hz (env0_q b) (by rw [hlm];omega) (by rw [hlm];omega)
        (fun x hx=>by obtain ⟨y,_,rfl⟩:=List.mem_map.1 hx;exact hf y)
        (fun i x hx j y hy=>by
          have hlt:i<len:=by rw [←hlm];exact (List.getElem?_eq_some_iff.1 hx).1
          rw [List.getElem?_map,hget i hlt] at hx
          cases hx
          obtain ⟨v,g1,g2,g3⟩:=cell i hlt j y hy
          rw [g1];exact ⟨rfl,g2⟩)
        (fun i x hx j y hy=>by
          have hlt:i<len:=by rw [←hlm];exact (List.getElem?_eq_some_iff.1 hx).1
          rw [List.getElem?_map,hget i hlt] at hx
          cases hx
          obtain ⟨v,g1,g2,g3⟩:=cell i hlt j y hy
          rw [g1];exact g3)
      rw [hlm] at this
      exact this
theorem elem_slice {t e:TypeId}{sz:Nat}(ht:P.underlying t=some (.slice e)) (hc:P.cellsOf e=sz) (hz:0<sz){α:Type}{f:α→AV}{good:α→Prop}(hf:∀a,(f a).cells.length=sz) (he:ElemRd enc P W e f good) :
    ElemRd enc P W t (fun l:List α=>AV.imm (l.map f)) (fun l=>∀a∈l,good a):=by
  intro fuel cs x h
  obtain ⟨v,rfl⟩:∃v,cs=[v]:=by
    rcases DataW.trod_slice ht h with ⟨h0,_⟩ | ⟨a,len,cap,elems,rest,n,_,h0,_⟩
    · exact ⟨_,h0⟩
    · exact ⟨_,h0⟩
  obtain ⟨l,h1,h2,h3⟩:=slice_rd ht hc hz hf he h
  refine ⟨l,h1,rfl,fun j y hy=>?_⟩
  cases j with
  | zero=>simp [AV.cells] at hy;subst hy;exact ⟨v,rfl,h3,h2⟩
  | succ j=>simp [AV.cells] at hy
/-! ### arguments -/
theorem arg_int {t:TypeId}{v:Value}{d:DataW H}{ps:List MemPlace}(ht:P.underlying t=some (.int .i64)) (hval:Value.okWide P W .any 0 t v) (hd:DataW.Trod enc P W 0 (fun _=>true) true t v d ps):∃n,(Lit.int .i64 n).wf=true∧RdD W env0.q (I n) v:=by
  obtain ⟨n,rfl,_,_,hw⟩:=open_int ht hval hd
  exact ⟨n,hw,.val _⟩
theorem arg_slice {t e:TypeId}{sz:Nat}(ht:P.underlying t=some (.slice e)) (hc:P.cellsOf e=sz) (hz:0<sz){α:Type}{f:α→AV}{good:α→Prop}(hf:∀a,(f a).cells.length=sz) (he:ElemRd enc P W e f good){b0:Nat}{v:Value}{d:DataW H}{ps:List MemPlace}
    (hval:Value.okWide P W .any b0 t v) (hd:DataW.Trod enc P W 0 (fun _=>true) true t v d ps):∃l:List α,(∀a∈l,good a)∧RdD W env0.q (.imm (l.map f)) v:=by
  obtain ⟨a,len,cap,rfl⟩:=okWide_slice ht hval
  obtain ⟨fuel,h⟩:=hd
  obtain ⟨l,h1,h2,_⟩:=slice_rd ht hc hz hf he (v:=.slice a len cap) (by simpa [Value.cells] using h)
  exact ⟨l,h1,h2⟩
theorem arg_struct2 {t:TypeId}{f0 f1:Field}(ht:P.underlying t=some (.struct #[f0,f1])) (o0:f0.offset=0) (o1:f1.offset=1) (c0:P.cellsOf f0.type=1) (c1:P.cellsOf f1.type=1) (ct:P.cellsOf t=2)
    {α β:Type}{f:α→AV}{g:β→AV}{ga:α→Prop}{gb:β→Prop}(hf:∀a,(f a).cells=[f a]) (hg:∀b,(g b).cells=[g b]) (h0:ElemRd enc P W f0.type f ga) (h1:ElemRd enc P W f1.type g gb){b0:Nat}{v:Value}{d:DataW H}{ps:List MemPlace}
    (hval:Value.okWide P W .any b0 t v) (hd:DataW.Trod enc P W 0 (fun _=>true) true t v d ps):∃a b,ga a∧gb b∧RdD W env0.q (.agg [f a,g b]) v:=by
  obtain ⟨cs,rfl,hs⟩:=okWide_struct ht hval
  obtain ⟨fuel,h⟩:=hd
  obtain ⟨y0,y1,n,_,hl,k0,k1⟩:=trod_struct2 ht h
  rw [ct] at hs
  obtain ⟨v0,v1,rfl⟩:∃v0 v1,cs = #[v0,v1]:=by
    obtain ⟨l⟩:=cs
    match l,hs with
    | [v0,v1],_=>exact ⟨v0,v1,rfl⟩
  rw [o0,c0] at k0
  rw [o1,c1] at k1
  simp [Value.cells] at k0 k1
  obtain ⟨a,q0,q1,q2⟩:=h0 _ _ _ k0
  obtain ⟨b,r0,r1,r2⟩:=h1 _ _ _ k1
  refine ⟨a,b,q0,r0,.agg _ _ rfl fun i x v hx hv=>?_⟩
  match i,hx,hv with
  | 0,hx,hv =>
    simp at hx hv;subst hx;subst hv
    obtain ⟨u,g1,_,g3⟩:=q2 0 (f a) (by rw [hf];rfl)
    simp at g1;subst g1;exact g3
  | 1,hx,hv =>
    simp at hx hv;subst hx;subst hv
    obtain ⟨u,g1,_,g3⟩:=r2 0 (g b) (by rw [hg];rfl)
    simp at g1;subst g1;exact g3
/-! ### what a law hands back -/
theorem trodAll_stays (hl:laidOutB P=true):∀ {ts:List TypeId}{vs:List Value}{ds:List (DataW H)}{ps:List MemPlace}{W W' : World}{sp:Nat→Bool},(ts.all fun t=>P.readableRec t&&decide (t<P.types.size))=true →
    DataW.TrodAll enc P W 0 (fun _=>true) true ts vs ds ps→(∀p∈ps,W.sameAt W' p)→(∀p∈ps,sp p.block=true)→DataW.TrodAll enc P W' 0 sp true ts vs ds ps
  | [],[],[],ps,W,W',sp,_,h,_,_=>h
  | t :: ts, v :: vs, d :: ds, ps, W, W', sp, hr, h, hsame, hs => by
    simp only [List.all_cons,Bool.and_eq_true,decide_eq_true_eq] at hr
    obtain ⟨p,q,h1,h2,rfl⟩:=h
    exact ⟨p,q,WideElems.Trod_stays hl hr.1.1 hr.1.2 h1 (fun x hx=>hsame x (List.mem_append_left _ hx)) (fun x hx=>hs x (List.mem_append_left _ hx)),
      trodAll_stays hl hr.2 h2 (fun x hx=>hsame x (List.mem_append_right _ hx)) (fun x hx=>hs x (List.mem_append_right _ hx)),rfl⟩
  | [],_ :: _,_,_,_,_,_,_,h,_,_=>h.elim
  | [],[],_ :: _,_,_,_,_,_,h,_,_=>h.elim
  | _ :: _,[],_,_,_,_,_,_,h,_,_=>h.elim
  | _ :: _,_ :: _,[],_,_,_,_,_,h,_,_=>h.elim
theorem law_post (hl:laidOutB P=true){f:Func}{s:ChangeSpec}{apart fresh:Bool}{W W' : World}{args:Array Value}{ds:List (DataW H)}{before:List MemPlace}(hvars:s.vars=[]){tb:TypeId}(hrt:f.resultTypes = #[tb]) (hb:P.underlying tb=some .bool)
    (hr:(f.params.toList.all fun t=>P.readableRec t&&decide (t<P.types.size))=true) (hW:DataW.Whole enc P f.params.toList s.vars apart W args.toList ds [] before) (hs:s.fn H ds={ results:=[.lit (.bool true)],args:=ds })
    (hB:Below W.heap.size W W'):s.post enc P f apart fresh false false W args (.bool true) W':=by
  have hW0:=hW
  obtain ⟨p,q,hA,hV,rfl,hz,hn⟩:=hW
  rw [hvars] at hV
  have hq:q=[]:=by simpa [DataW.TrodVars] using hV
  subst hq
  have hlt:∀x∈p,x.block<W.heap.size:=fun x hx=>hW0.lt x (by simpa using hx)
  refine ⟨ds,[],p++[],[],p,[],hW0, ?_, ?_, ?_,hB.frame _,fun h=>by cases h⟩
  · rw [hrt,List.append_nil,hs]
    exact ⟨[],[],shut_bool hb true,rfl,rfl⟩
  · rw [List.append_nil,hs]
    exact trodAll_stays hl hr hA (fun x hx=>hB.same (hlt x hx)) (fun x hx=>by simpa using hlt x hx)
  · rw [hvars,List.append_nil,hs]
    exact rfl
end
end Go.Sim
