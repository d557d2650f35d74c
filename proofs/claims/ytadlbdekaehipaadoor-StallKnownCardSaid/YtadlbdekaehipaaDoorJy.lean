/- Laws that read variables of the library: the world in which such a law begins. -/
import Derived.Test.YtadlbdekaehipaaDoorJb
import Derived.Test.YtadlbdekaehipaaDoorIa
import Derived.Test.YtadlbdekaehipaaDoorRn
import Derived.Shelf.Vars
import Derived.HandedShaped
import Derived.LaidHandle
import Derived.Lay
set_option linter.all false
set_option linter.unusedVariables false
namespace Go.Sim
open Go.RowKit Go.ChangeShapes Go.WideShapes Go.ChangeAt Go.Proofs
section
variable {H:Type}{enc:TypeId×Value→H}{P:Program}{W:World}
def env2:Env:={ get:=fun id=>if id=10900 then some (mt none 0 0) else none,pr:=fun _=>True,bs:=0 }
theorem env2_own {b:Nat}:¬env2.owned b:=by
  rintro ⟨id,m,h1,h2⟩
  simp only [env2] at h1
  split at h1
  · cases h1;rcases h2 with h2 | h2
    · cases h2
    · exact h2.elim
  · cases h1
theorem env2_q (b:Nat):env2.q b:=⟨trivial,env2_own⟩
theorem env2_sim {ob : Lb} (hL : ∀ b o, (b, o) ∈ ob.L → W.heap[b]? = some o ∧ CellIn W b) : Sim W env2 [(10900, tabO ob)] := by
  refine ⟨fun id=>?_, ?_, ?_,fun _ _=>trivial,fun _ _=>trivial⟩
  · by_cases h:id=10900
    · subst h;rfl
    · simp [env2,look,h,Ne.symm h]
  · intro i j m m' b h1 h2 _ _
    simp only [env2] at h1 h2
    split at h1<;>split at h2<;>simp_all
  · intro id o m h1 h2
    simp only [look] at h1
    split at h1
    · rename_i h
      subst h;cases h1
      have:m=mt none 0 0:=by simpa [env2] using h2.symm
      subst this
      refine ⟨⟨rfl,rfl,fun x h=>h.elim,fun b o ho=>⟨(hL b o ho).1,env2_q b,(hL b o ho).2⟩⟩,fun h=>?_,fun b hb=>?_,libC_stab _⟩
      · exact absurd h.2 (show (0:Nat)≠1 by decide)
      · rcases hb with hb | hb
        · cases hb
        · exact hb.elim
    · cases h1
theorem calls_of2 {fn:FuncId}{xs:List AV}{ob:Lb}(h:ACalls P fn xs [(10900,tabO ob)] (fun r objs=>r=B true∧objs=[(10900,tabO ob)]))
    (hL:∀b o,(b,o)∈ob.L→W.heap[b]?=some o∧CellIn W b){args:Array Value}(hs:args.size=xs.length) (hr:∀(i:Nat) (x:AV) (v:Value),xs[i]?=some x→args[i]?=some v→RdD W env0.q x v) :
    Calls P fn args W fun en W'=>en = .returned (.bool true)∧Below W.heap.size W W':=by
  refine (h.run W env2 args (env2_sim hL) hs fun i x v hx hv=>.data ((hr i x v hx hv).evolve fun b _ _=>⟨rfl,env2_q b⟩)).mono ?_
  rintro en W' ⟨v,res,objs,e',rfl,⟨rfl,rfl⟩,hsim,hf,hrd⟩
  obtain rfl:=hrd.val_inv
  exact ⟨rfl,hf.os,hf.tape,hf.output,hf.size,fun k hk=>hf.blk k hk env2_own⟩
theorem laid_at:∀ {l:List (String×DataW Unit)}{ps:List MemPlace},DataW.LaidVars P W l ps→∀n d,(n,d)∈l →
    ∃g t cs fuel p,P.globalNamed n=some g∧(P.globals[g]?).map (·.type)=some t∧W.var? P n=some cs∧DataW.trod (fun _=>()) P W 0 (fun _=>true) false fuel t cs.toList=some (d,p)
  | [],_,_,_,_,hm=>by cases hm
  | (n',d') :: r,ps,h,n,d,hm=>by
    obtain ⟨g,t,cs,fuel,p,q,h1,h2,h3,h4,h5,_⟩:=h
    rcases List.mem_cons.1 hm with e | e
    · cases e
      exact ⟨g,t,cs,fuel,p,h1,h2,h3,h4⟩
    · exact laid_at h5 n d e
theorem tab_laid {l:List (String×DataW Unit)}(h:laidMet P l W){n:String}{d:DataW Unit}(hm:(n,d)∈l){g:Nat}{t te:TypeId}{k:IntKind}{zs:List Int}{N:Nat}(hg:P.globalNamed n=some g) (ht:(P.globals[g]?).map (·.type)=some t) (hA:P.underlying t=some (.array N te)) (hE:P.underlying te=some (.int k)) (hc:P.cellsOf te=1)
    (hz:P.cellsOf t=N) (hd:d = .agg (zs.map fun z=>.lit (.int k z))):Lib.TabIs P W n k zs:=by
  obtain ⟨ps,hv,_⟩:=h
  obtain ⟨g',t',cs,fuel,p,g1,g2,g3,g4⟩:=laid_at hv _ _ hm
  rw [hg] at g1;cases g1
  rw [ht] at g2;cases g2
  subst hd
  have:=Lib.cells_of_tab (k:=k) (zs:=zs) hA hE hc hz g4
  unfold Lib.TabIs
  rw [g3,←this]
theorem tab_heap {w:World}{n:String}{k:IntKind}{zs:List Int}{g:Nat}(hg:P.globalNamed n=some g) (e:w.heap[g]?=W.heap[g]?) (h:Lib.TabIs P W n k zs):Lib.TabIs P w n k zs:=by
  unfold Lib.TabIs World.var? at h ⊢
  rw [hg] at h ⊢
  simp only [Option.bind_some] at h ⊢
  rw [e];exact h
theorem tab_cell {n:String}{k:IntKind}{z:Int}{zs:List Int}{g:Nat}(hg:P.globalNamed n=some g) (h:Lib.TabIs P W n k (z :: zs)):∃v,W.cell? ⟨g,0,none⟩=some v:=by
  unfold Lib.TabIs World.var? at h
  rw [hg] at h
  simp only [Option.bind_some] at h
  split at h
  · rename_i x1 x2 x3 hx
    cases h
    exact ⟨_,by simp [World.cell?,hx];rfl⟩
  · cases h
def blocksOf (W:World) (gs:List Nat):List (Nat×Go.Obj):=gs.filterMap fun g=>(W.heap[g]?).map fun o=>(g,o)
theorem blocksOf_get {gs:List Nat}{b:Nat}{o:Go.Obj}(h:(b,o)∈blocksOf W gs):b∈gs∧W.heap[b]?=some o:=by
  unfold blocksOf at h
  obtain ⟨g,h1,h2⟩:=List.mem_filterMap.1 h
  cases hx:W.heap[g]? with
  | none=>rw [hx] at h2;cases h2
  | some o'=>rw [hx] at h2;cases h2;exact ⟨h1,hx⟩
theorem blocksOf_same {gs:List Nat}{w:World}(h:∀b o,(b,o)∈blocksOf W gs→w.heap[b]?=some o){g:Nat}{v:Value}(hg:g∈gs) (hc:W.cell? ⟨g,0,none⟩=some v):w.heap[g]?=W.heap[g]?:=by
  obtain ⟨o,ho⟩:∃o,W.heap[g]?=some o:=by
    cases hx:W.heap[g]? with
    | none=>unfold World.cell? at hc;rw [hx] at hc;cases hc
    | some o=>exact ⟨o,rfl⟩
  rw [ho]
  exact h g o (List.mem_filterMap.2 ⟨g,hg,by rw [ho];rfl⟩)
theorem returns_andS {a:Assume}{C:Checked}{os:Os}{f:FuncId}{fn:Func}{s:ChangeSpec}{conds:List PathCond}{apart fresh handsOn again:Bool}{X:World→Array Value→Prop}
    (hX:∀(w w' : World) (args:Array Value),w.heap=w'.heap→X w args→X w' args)
    (own:ownKnob C.prog.godebug=none) (started:os.Started) (noInit:C.prog.inits.idxOf? f=none) (hfn:C.prog.funcs[f]?=some fn)
    (witness:∃(w:World) (tape:Tape) (i:Input),w.os=os∧(w.forCall tape i).Shaped C.prog∧i.vars=[]∧Input.okWide C.prog (w.forCall tape i) .any w.heap.size f i ∧
      ((s.pre enc C.prog fn conds apart (w.forCall tape i).memory i.args∧X (w.forCall tape i).memory i.args)∧sizedMet enc C.prog fn (OpenSpec.ofChange s) apart (w.forCall tape i).memory i.args)∧a.holds C.prog (lone (Frame.enter C.prog f i.args .normal) [] (w.forCall tape i)))
    (contract:∀(W:World) (base:Nat) (args:Array Value) (ds gs:List (DataW H)) (before:List MemPlace),
      (∀(j:Nat) t v,fn.params[j]?=some t→args[j]?=some v→Value.okWide C.prog W .any base t v) →
      DataW.Whole enc C.prog fn.params.toList s.vars apart W args.toList ds gs before →
      conds.all (PathCond.test C.prog ⟨fn.params.toList,ds,s.plain.varTypes C.prog,gs⟩)=true→X W args→W.ShapedOpen C.prog →
      Calls C.prog f args W fun e W'=>∃v,e = .returned v∧s.post enc C.prog fn apart fresh handsOn again W args v W') :
    ReturnsInHanded a C os f .any (fun w args=>(s.pre enc C.prog fn conds apart w args∧X w args)∧sizedMet enc C.prog fn (OpenSpec.ofChange s) apart w args) (s.post enc C.prog fn apart fresh handsOn again):=by
  refine returnsInHanded_of_calls own started noInit witness ?_
  intro w tape i _ hsh _ hok hpre hholds
  obtain ⟨_,_,_,fn',hfn',_,_,_,_,hval⟩:=hok
  have e:fn'=fn:=Option.some.inj (hfn'.symm.trans hfn)
  subst e
  obtain ⟨⟨⟨ds,gs,before,hw,hc⟩,hx⟩,hz⟩:=hpre
  have hw':=DataW.Whole.of_heap (w':=w.forCall tape i) (by rfl) hw
  refine (contract (w.forCall tape i) w.heap.size i.args ds gs before hval hw' hc (hX _ _ _ (by rfl) hx) hsh).mono fun e W' ⟨v,he,hp⟩=>?_
  subst he
  exact ChangeSpec.post_blind hp
end
end Go.Sim
