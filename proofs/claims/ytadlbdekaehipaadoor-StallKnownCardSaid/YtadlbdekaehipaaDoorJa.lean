/- From contracts over abstract values to the given statements: how arguments are read, what a law hands back. -/
import Derived.Test.YtadlbdekaehipaaDoorMb
import Derived.Carry
import Derived.ProofKit
import Derived.WalkKit
namespace Go.Sim
open Go.RowKit Go.ChangeShapes Go.WideShapes Go.ChangeAt
section
variable {H:Type}{enc:TypeId×Value→H}{P:Program}{W:World}
def env0:Env:={ get:=fun _=>none,pr:=fun _=>True,bs:=0 }
def CellsOk (W:World) (x:AV) (cs:List Value):Prop:=cs.length=x.cells.length∧∀(j:Nat) (y:AV),x.cells[j]?=some y→∃v,cs[j]?=some v∧v.oneCell'=true∧RdD W env0.q y v
def ElemRd (enc:TypeId×Value→H) (P:Program) (W:World) (e:TypeId){α:Type}(f:α→AV) (good:α→Prop):Prop:=
  ∀fuel cs x,DataW.trod enc P W 0 (fun _=>true) true fuel e cs=some x→∃a,good a∧CellsOk W (f a) cs
/-! ### what a law hands back -/
theorem trodAll_stays (hl:laidOutB P=true):∀ {ts:List TypeId}{vs:List Value}{ds:List (DataW H)}{ps:List MemPlace}{W W' : World}{sp:Nat→Bool},(ts.all fun t=>P.readableRec t&&decide (t<P.types.size))=true →
    DataW.TrodAll enc P W 0 (fun _=>true) true ts vs ds ps→(∀p∈ps,W.sameAt W' p)→(∀p∈ps,sp p.block=true)→DataW.TrodAll enc P W' 0 sp true ts vs ds ps
  | [],[],[],ps,W,W',sp,_,h,_,_=>h
  | t :: ts, v :: vs, d :: ds, ps, W, W', sp, hr, h, hsame, hs => by
    simp only [List.all_cons,Bool.and_eq_true,decide_eq_true_eq] at hr
    obtain ⟨p,q,h1,h2,rfl⟩:=h
    exact ⟨p,q,WideElems.Trod_stays hl hr.1.1 hr.1.2 h1 (fun x hx=>hsame x (List.mem_append_left _ hx)) (fun x hx=>hs x (List.mem_append_left _ hx)),
      trodAll_stays hl hr.2 h2 (fun x hx=>hsame x (List.mem_append_right _ hx)) (fun x hx=>hs x (List.mem_append_right _ hx)),rfl⟩
  | [],_ :: _,_,_,_,_,_,_,h,_,_=>h.elim
  | [],[],_ :: _,_,_,_,_,_,h,_,_=>h.elim
  | _ :: _,[],_,_,_,_,_,_,h,_,_=>h.elim
  | _ :: _,_ :: _,[],_,_,_,_,_,h,_,_=>h.elim
theorem law_post (hl:laidOutB P=true){f:Func}{s:ChangeSpec}{apart fresh:Bool}{W W' : World}{args:Array Value}{ds:List (DataW H)}{before:List MemPlace}(hvars:s.vars=[]){tb:TypeId}(hrt:f.resultTypes = #[tb]) (hb:P.underlying tb=some .bool)
    (hr:(f.params.toList.all fun t=>P.readableRec t&&decide (t<P.types.size))=true) (hW:DataW.Whole enc P f.params.toList s.vars apart W args.toList ds [] before) (hs:s.fn H ds={ results:=[.lit (.bool true)],args:=ds })
    (hB:Below W.heap.size W W'):s.post enc P f apart fresh false false W args (.bool true) W':=by
  have hW0:=hW
  obtain ⟨p,q,hA,hV,rfl,hz,hn⟩:=hW
  rw [hvars] at hV
  have hq:q=[]:=by simpa [DataW.TrodVars] using hV
  subst hq
  have hlt:∀x∈p,x.block<W.heap.size:=fun x hx=>hW0.lt x (by simpa using hx)
  refine ⟨ds,[],p++[],[],p,[],hW0, ?_, ?_, ?_,hB.frame _,fun h=>by cases h⟩
  · rw [hrt,List.append_nil,hs]
    exact ⟨[],[],shut_bool hb true,rfl,rfl⟩
  · rw [List.append_nil,hs]
    exact trodAll_stays hl hr hA (fun x hx=>hB.same (hlt x hx)) (fun x hx=>by simpa using hlt x hx)
  · rw [hvars,List.append_nil,hs]
    exact rfl
end
end Go.Sim
