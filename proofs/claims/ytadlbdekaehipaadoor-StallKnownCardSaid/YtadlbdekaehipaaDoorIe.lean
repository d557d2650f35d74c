/- Builders: made, written row by row; what a row is. -/
import Derived.Test.YtadlbdekaehipaaDoorIa
import Derived.Lib.ItoaLen
import Derived.Test.YtadlbdekaehipaaDoorRn
namespace Go.Sim
open Go.Proofs
set_option maxRecDepth 100000
set_option linter.unusedSimpArgs false
set_option linter.unusedVariables false
attribute [-simp] List.map_set List.map_take List.map_drop
section
variable {P:Program}{Γ:TypeId→Option TI}
theorem Le.phantom (id:Nat) (ty:TypeId) (sz:Nat){st s2:St}(hu:unp id=true) (h:st.renew id (.row true ty sz [])=s2):Le st s2:=by
  subst h
  intro a w e hc
  exact ⟨_,hc.phantom id hu ty sz⟩
theorem WDraw.bldI (hΓ:TOk P Γ){ops rest:List Oper}{deps:List (List Nat)}{eff:List (Nat×List Nat)}{s0 v:St}{K:DrawK}{n k:Nat}{ents ents' : List REnt}{o:Oper}{r r' : AV}{new new' : List (Nat×Obj)}(hv:viewSt ops deps eff s0 k ents=v) (hw:wantedA ops o v=some true) (he:evalN Γ o v=some (r,new)) (hi:imD r new=some (r',new'))
    (hf:(new.all fun x=>(look x.1 v.objs).isNone)=true) (hn:outIn [] o v new'=true) (hs:ents++[⟨o.dst,r',new'⟩]=ents') (h:WDraw P ops deps eff s0 K n rest (k+1) ents'):WDraw P ops deps eff s0 K (n+1) (o :: rest) k ents:=by
  subst hv;subst hs
  refine ⟨true,hw, ?_⟩
  simp only [if_true]
  exact ⟨_,_,(QStep.ofN hΓ he (fun x hx=>by simpa using List.all_eq_true.1 hf x hx)).imD hi,outIn_all (.inl rfl) hn,h⟩
theorem WOps.allocB (hΓ:TOk P Γ){ops rest:List Oper}{K:St→Prop}{o:Oper}{st s2:St}{t:TypeId}{ti:TI}(id nid:Nat)
    (ho:o.op = .alloc t) (hg:o.guard=none) (hd:dstOk o st=true) (hti:Γ t=some ti) (hz:ti.zero = .agg #[.pointer none,.slice none 0 0]) (hc:(unp id&&unp nid&&!(id==nid))=true)
    (hs:((st.renew id (.cus (boxC t false (.slice none 0 0)))).renew nid (.cus (bufC 5 (.slice none 0 0) []))).put o.dst (.ptr id 0 0)=s2) (hK:WOps P ops K rest s2):WOps P ops K (o :: rest) st:=by
  subst hs
  simp only [Bool.and_eq_true,Bool.not_eq_true',beq_eq_false_iff_ne] at hc
  obtain ⟨⟨hu,hu2⟩,hne⟩:=hc
  refine ⟨hd,true,by simp [wantedA,hg], ?_⟩
  simp only [if_true]
  intro rd a w e h next Q hnext
  let m:Mta:=mt (some w.heap.size) 1 2
  let w1:=w.alloc (.cells #[.pointer none,.slice none 0 0] t)
  have hold:∀b,b<w.heap.size→w1.heap[b]?=w.heap[b]?:=fun b hb=>heap_alloc_old w _ hb
  have hnew:w1.heap[w.heap.size]?=some (.cells #[.pointer none,.slice none 0 0] t (0,0)):=heap_alloc_new w _
  have hfr:Fr w e w1 (e.set id m):=by
    refine ⟨rfl,rfl,rfl,by simp [w1],fun b hb _=>hold b hb,fun b ho hb=>?_,rfl,Pinned.of fun j hj=>by simp [Env.set,unp_ne hu hj]⟩
    obtain ⟨j,mj,hj,hm⟩:=ho
    simp only [Env.set] at hj
    split at hj
    · cases hj;rw [Mta.has_mk] at hm;cases hm;omega
    · exact ⟨j,mj,hj,hm⟩
  have c1:Conc (st.renew id (.cus (boxC t false (.slice none 0 0)))) a w1 (e.set id m):=by
    refine h.renew id _ m hfr (fun b hb j m' hj hm' hb'=>?_) (fun j m' b hj hm' hb'=>hold b (h.sim.blk_lt hm' hb')) ?_ (fun b hb=>?_)
    · rw [Mta.has_mk] at hb;cases hb;have:=h.sim.blk_lt hm' hb';omega
    · refine ⟨⟨w.heap.size,rfl,rfl,fun _ k=>k,by simpa using hnew⟩,fun hg=>absurd hg.1 (by simp [m]),fun b hb=>?_,boxC_stab _ _ _⟩
      rw [Mta.has_mk] at hb;cases hb
      simp [w1]
    · rw [Mta.has_mk] at hb;cases hb;exact h.sim.new _ (Nat.le_refl _)
  let m2:Mta:=mt none 0 1
  have hfr2:Fr w1 (e.set id m) w1 ((e.set id m).set nid m2):=by
    refine ⟨rfl,rfl,rfl,Nat.le_refl _,fun b hb _=>rfl,fun b ho hb=>?_,rfl,Pinned.of fun j hj=>by simp [Env.set,unp_ne hu2 hj]⟩
    obtain ⟨j,mj,hj,hm⟩:=ho
    simp only [Env.set] at hj
    split at hj
    · cases hj;rw [Mta.has_mk] at hm;cases hm
    · rename_i k;exact ⟨j,mj,by simpa only [Env.set] using hj,hm⟩
  have c2:=c1.renew nid (.cus (bufC 5 (.slice none 0 0) [])) m2 hfr2 (fun b hb=>by rw [Mta.has_mk] at hb;cases hb) (fun _ _ _ _ _ _=>rfl)
    ⟨⟨rfl,rfl,fun _ k=>k,⟨rfl,.inl ⟨rfl,rfl⟩⟩⟩,fun hg=>absurd hg.2 (by simp [m2]),fun b hb=>(by rw [Mta.has_mk] at hb;cases hb),bufC_stab _ _ _⟩ (fun b hb=>by rw [Mta.has_mk] at hb;cases hb)
  refine ⟨fun _ _=>trivial, ?_⟩
  have hrun:(Instr.alloc t true (.tuple #[])).run P w = .ok (.pointer (some ⟨w.heap.size,0,none⟩)) w1:=by
    rw [run_alloc_box (hΓ _ _ hti),hz]
    simp [Instr.box,newVar,newRow,World.alloc_eq,w1,Value.cells]
  have hst:(execOp a.eval o).run P w = .ok (.value (.pointer (some ⟨w.heap.size,0,none⟩))) w1:=by simp [execOp,ho,hrun]
  rw [semAt_ok hst (by simp)]
  refine hnext (.ptr id 0 0) _ _ w1 _ hK c2 (hfr.trans hfr2) ?_
  have:=Rd.ptr (w:=w1) (e:=(e.set id m).set nid m2) id 0 0 m w.heap.size (by simp [Env.set,hne]) rfl
  simpa using this
end
@[simp] theorem boxC_fr {t:TypeId}{u:Bool}{v:Value}:(boxC t u v).fr=true:=rfl
@[simp] theorem bufC_fr {t:TypeId}{v:Value}{bs:List UInt8}:(bufC t v bs).fr=true:=rfl
set_option maxRecDepth 100000 in
abbrev spc:ByteArray:=⟨#[32]⟩
abbrev nlS:ByteArray:=⟨#[10]⟩
@[reducible] noncomputable def bldO (ob:Lb) (u:Bool) (v:Value) (bs:List UInt8):List (Nat×Obj):=[(10000,.cus (boxC 70 u v)),(15000,.cus (bufC 5 v bs)),(10900,tabO ob)]
theorem flat_len {α:Type}{f:α→List UInt8}{k:Nat}:∀ {l:List α},(∀x∈l,(f x).length≤k)→(l.flatMap f).length≤l.length * k
  | [],_=>by simp
  | x :: l,h=>by
    have:=h x (List.mem_cons_self ..)
    have:=flat_len (k:=k) (l:=l) fun y hy=>h y (List.mem_cons_of_mem _ hy)
    rw [List.flatMap_cons,List.length_append,List.length_cons,Nat.add_mul]
    omega
end Go.Sim
