/- From contracts over abstract values to the given statements: how arguments are read, what a law hands back. -/
import Derived.Test.YtholkejjmookfaaDoorMb
import Derived.Carry
import Derived.ProofKit
import Derived.WalkKit
namespace Go.Sim
open Go.RowKit Go.ChangeShapes Go.WideShapes Go.ChangeAt
section
variable {H:Type}{enc:TypeId×Value→H}{P:Program}{W:World}
def env0:Env:={ get:=fun _=>none,pr:=fun _=>True,bs:=0 }
theorem env0_q (b:Nat):env0.q b:=⟨trivial,fun ⟨_,_,h,_⟩=>by cases h⟩
def CellsOk (W:World) (x:AV) (cs:List Value):Prop:=cs.length=x.cells.length∧∀(j:Nat) (y:AV),x.cells[j]?=some y→∃v,cs[j]?=some v∧v.oneCell'=true∧RdD W env0.q y v
def ElemRd (enc:TypeId×Value→H) (P:Program) (W:World) (e:TypeId){α:Type}(f:α→AV) (good:α→Prop):Prop:=
  ∀fuel cs x,DataW.trod enc P W 0 (fun _=>true) true fuel e cs=some x→∃a,good a∧CellsOk W (f a) cs
theorem cell_spot {a:Addr}{i:Nat}{v:Value}(h:W.cell? (a.add i)=some v):a.add i=⟨a.block,a.off+i,none⟩:=by
  have hspot:(a.add i).spot=none:=by
    cases hsp:(a.add i).spot with
    | none=>rfl
    | some s =>
      simp only [World.cell?] at h
      split at h
      · simp [hsp] at h
      · cases h
  unfold Addr.add at hspot ⊢
  split
  · rename_i h0
    subst h0
    rw [if_pos rfl] at hspot
    cases a
    simp_all
  · rfl
theorem elem_int {e:TypeId}(he:P.underlying e=some (.int .i64)):ElemRd enc P W e I (fun n=>(Lit.int .i64 n).wf=true):=by
  intro fuel cs x h
  obtain ⟨n,rfl,_,hw⟩:=DataW.trod_int he h
  refine ⟨n,hw,rfl,fun j y hy=>?_⟩
  cases j with
  | zero=>simp [AV.cells] at hy;subst hy;exact ⟨_,rfl,rfl,.val _⟩
  | succ j=>simp [AV.cells] at hy
theorem slice_rd {t e:TypeId}{sz:Nat}(ht:P.underlying t=some (.slice e)) (hc:P.cellsOf e=sz) (hz:0<sz){α:Type}{f:α→AV}{good:α→Prop}(hf:∀a,(f a).cells.length=sz) (he:ElemRd enc P W e f good)
    {fuel:Nat}{v:Value}{x:DataW H×List MemPlace}(h:DataW.trod enc P W 0 (fun _=>true) true fuel t [v]=some x):∃l:List α,(∀a∈l,good a)∧RdD W env0.q (.imm (l.map f)) v∧v.oneCell'=true:=by
  rcases DataW.trod_slice ht h with ⟨h0,_⟩ | ⟨a,len,cap,elems,rest,n,_,h0,_,hb,hl,hm,hlen,hel,_,_⟩
  · cases h0
    exact ⟨[],by simp,.imm0 none 0,rfl⟩
  · cases h0
    rw [hc] at hel
    by_cases hl0:len=0
    · subst hl0
      exact ⟨[],by simp,.imm0 (some a) cap,rfl⟩
    have each:∀i,i<len→∃y:α,good y∧∃cs,W.cells? 0 (a.add (i * sz)) sz=some cs∧CellsOk W (f y) cs:=by
      intro i hi
      have hel':=hel i hi
      rw [List.getElem?_eq_getElem (by omega),Option.bind_eq_some_iff] at hel'
      obtain ⟨cs,h1,h2⟩:=hel'
      obtain ⟨y,hy,hy2⟩:=he _ _ _ h2
      exact ⟨y,hy,cs,h1,hy2⟩
    let l:List α:=(List.range len).attach.map fun i=>Classical.choose (each i.1 (List.mem_range.1 i.2))
    have hl1:l.length=len∧∀i (h:i<len),l[i]?=some (Classical.choose (each i h)):=by
      refine ⟨by simp [l],fun i h=>?_⟩
      have hi:i<l.length:=by simp [l];exact h
      rw [List.getElem?_eq_getElem hi]
      simp [l]
    obtain ⟨hln,hget⟩:=hl1
    have hspot:a.spot=none:=by
      obtain ⟨cs,h1,h2,_⟩:=(Classical.choose_spec (each 0 (by omega))).2
      obtain ⟨_,k2,k3⟩:=World.cells?_some h1
      have:=k3 0 hz
      rw [List.getElem?_eq_getElem (by omega)] at this
      have hs:=cell_spot this
      simp [Addr.add] at hs
      cases a;simp_all
    obtain ⟨b,off,sp⟩:=a
    simp only at hspot
    subst hspot
    refine ⟨l,fun y hy=>?_, ?_,rfl⟩
    · obtain ⟨i,hi⟩:=List.mem_iff_getElem?.1 hy
      have hlt:i<len:=by rw [←hln];exact (List.getElem?_eq_some_iff.1 hi).1
      rw [hget i hlt] at hi
      cases hi
      exact (Classical.choose_spec (each i hlt)).1
    · have hlm:(l.map f).length=len:=by simp [hln]
      have cell:∀i (h:i<len) (j:Nat) (y:AV),(f (Classical.choose (each i h))).cells[j]?=some y→∃v,W.cell? ⟨b,off+i * sz+j,none⟩=some v∧v.oneCell'=true∧RdD W env0.q y v:=by
        intro i h j y hy
        obtain ⟨cs,h1,h2,h3⟩:=(Classical.choose_spec (each i h)).2
        obtain ⟨v,g1,g2,g3⟩:=h3 j y hy
        obtain ⟨_,k2,k3⟩:=World.cells?_some h1
        have hj:j<sz:=by rw [←k2];exact (List.getElem?_eq_some_iff.1 g1).1
        have:=k3 j hj
        rw [g1] at this
        refine ⟨v, ?_,g2,g3⟩
        rw [←this,addr_add,addr_add]
      have:=RdD.imm (w:=W) (q:=env0.q) (l.map f) b off cap sz (fun i j=>(W.cell? ⟨b,off+i * sz+j,none⟩).getD undef) (by intro hn;rw [hn] at hlm;simp at hlm;omega) hz (env0_q b) (by rw [hlm];omega) (by rw [hlm];omega)
        (fun x hx=>by obtain ⟨y,_,rfl⟩:=List.mem_map.1 hx;exact hf y)
        (fun i x hx j y hy=>by
          have hlt:i<len:=by rw [←hlm];exact (List.getElem?_eq_some_iff.1 hx).1
          rw [List.getElem?_map,hget i hlt] at hx
          cases hx
          obtain ⟨v,g1,g2,g3⟩:=cell i hlt j y hy
          rw [g1];exact ⟨rfl,g2⟩)
        (fun i x hx j y hy=>by
          have hlt:i<len:=by rw [←hlm];exact (List.getElem?_eq_some_iff.1 hx).1
          rw [List.getElem?_map,hget i hlt] at hx
          cases hx
          obtain ⟨v,g1,g2,g3⟩:=cell i hlt j y hy
          rw [g1];exact g3)
      rw [hlm] at this
      exact this
theorem arg_slice {t e:TypeId}{sz:Nat}(ht:P.underlying t=some (.slice e)) (hc:P.cellsOf e=sz) (hz:0<sz){α:Type}{f:α→AV}{good:α→Prop}(hf:∀a,(f a).cells.length=sz) (he:ElemRd enc P W e f good){b0:Nat}{v:Value}{d:DataW H}{ps:List MemPlace}
    (hval:Value.okWide P W .any b0 t v) (hd:DataW.Trod enc P W 0 (fun _=>true) true t v d ps):∃l:List α,(∀a∈l,good a)∧RdD W env0.q (.imm (l.map f)) v:=by
  obtain ⟨a,len,cap,rfl⟩:=okWide_slice ht hval
  obtain ⟨fuel,h⟩:=hd
  obtain ⟨l,h1,h2,_⟩:=slice_rd ht hc hz hf he (v:=.slice a len cap) (by simpa [Value.cells] using h)
  exact ⟨l,h1,h2⟩
/-! ### what a law hands back -/
theorem trodAll_stays (hl:laidOutB P=true):∀ {ts:List TypeId}{vs:List Value}{ds:List (DataW H)}{ps:List MemPlace}{W W' : World}{sp:Nat→Bool},(ts.all fun t=>P.readableRec t&&decide (t<P.types.size))=true →
    DataW.TrodAll enc P W 0 (fun _=>true) true ts vs ds ps→(∀p∈ps,W.sameAt W' p)→(∀p∈ps,sp p.block=true)→DataW.TrodAll enc P W' 0 sp true ts vs ds ps
  | [],[],[],ps,W,W',sp,_,h,_,_=>h
  | t :: ts, v :: vs, d :: ds, ps, W, W', sp, hr, h, hsame, hs => by
    simp only [List.all_cons,Bool.and_eq_true,decide_eq_true_eq] at hr
    obtain ⟨p,q,h1,h2,rfl⟩:=h
    exact ⟨p,q,WideElems.Trod_stays hl hr.1.1 hr.1.2 h1 (fun x hx=>hsame x (List.mem_append_left _ hx)) (fun x hx=>hs x (List.mem_append_left _ hx)),
      trodAll_stays hl hr.2 h2 (fun x hx=>hsame x (List.mem_append_right _ hx)) (fun x hx=>hs x (List.mem_append_right _ hx)),rfl⟩
  | [],_ :: _,_,_,_,_,_,_,h,_,_=>h.elim
  | [],[],_ :: _,_,_,_,_,_,h,_,_=>h.elim
  | _ :: _,[],_,_,_,_,_,_,h,_,_=>h.elim
  | _ :: _,_ :: _,[],_,_,_,_,_,h,_,_=>h.elim
theorem law_post (hl:laidOutB P=true){f:Func}{s:ChangeSpec}{apart fresh:Bool}{W W' : World}{args:Array Value}{ds:List (DataW H)}{before:List MemPlace}(hvars:s.vars=[]){tb:TypeId}(hrt:f.resultTypes = #[tb]) (hb:P.underlying tb=some .bool)
    (hr:(f.params.toList.all fun t=>P.readableRec t&&decide (t<P.types.size))=true) (hW:DataW.Whole enc P f.params.toList s.vars apart W args.toList ds [] before) (hs:s.fn H ds={ results:=[.lit (.bool true)],args:=ds })
    (hB:Below W.heap.size W W'):s.post enc P f apart fresh false false W args (.bool true) W':=by
  have hW0:=hW
  obtain ⟨p,q,hA,hV,rfl,hz,hn⟩:=hW
  rw [hvars] at hV
  have hq:q=[]:=by simpa [DataW.TrodVars] using hV
  subst hq
  have hlt:∀x∈p,x.block<W.heap.size:=fun x hx=>hW0.lt x (by simpa using hx)
  refine ⟨ds,[],p++[],[],p,[],hW0, ?_, ?_, ?_,hB.frame _,fun h=>by cases h⟩
  · rw [hrt,List.append_nil,hs]
    exact ⟨[],[],shut_bool hb true,rfl,rfl⟩
  · rw [List.append_nil,hs]
    exact trodAll_stays hl hr hA (fun x hx=>hB.same (hlt x hx)) (fun x hx=>by simpa using hlt x hx)
  · rw [hvars,List.append_nil,hs]
    exact rfl
end
end Go.Sim
