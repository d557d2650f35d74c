/- Calls, drawn regions, loops. -/
import Derived.Test.YtadlbdekaehipaaDoorMa
import Derived.OrdersIn
import Derived.Scope
import Derived.RangeFuncLeaves
import Derived.RangeFuncRecord
import Derived.Orders
set_option linter.all false
set_option linter.unusedVariables false
set_option linter.unusedSimpArgs false
namespace Go.Sim
open Go.RowKit
section
variable {P:Program} {Γ:TypeId→Option TI}
/-! ### every function, any depth; in a round of a range over a function, or not -/
def FR (rd:Option Nat):Fence:={ fn:=fun _=>True,depth:=none,alive:=false,round:=rd }
theorem callsIn_FR {rd:Option Nat} {f:FuncId} {args:Array Value} {w:World} {R:Ending→World→Prop} (h:Calls P f args w R):CallsIn (FR rd) 0 P f args w R:=by
  have h1:CallsIn Fence.wide 0 P f args w R:=callsIn_wide.2 h
  cases rd with
  | none=>exact h1
  | some l=>exact h1
theorem semAt_ok {o:Oper} {ro:Option Nat} {ρ:Operand→Value} {w w' : World} {x:Next} (h:(execOp ρ o).run P w = .ok x w') (hx:∀ d,x≠.defer d):(Oper.semAt ro ρ o).run P w = .ok x w':=by
  unfold Oper.semAt
  split
  · rename_i l c hc
    exfalso
    simp only [execOp,hc,Sem.run_bind] at h
    cases hr:(resolve ρ c o.type).run P w with
    | ok d w1=>rw [hr] at h; simp at h; exact hx d h.1.symm
    | halt a b=>rw [hr] at h; simp [Result.andThen] at h
  · exact h
/-! ### operations with what comes behind them -/
def OpSem (P:Program) (o:Oper) (st' : St) (r:AV) (a:Act) (w:World) (e:Env):Prop:=
  ∀ (rd:Option Nat) (next:Act→World→Prop) (Q:Exit→Act→World→Prop),(∀ v w' e',Conc st' a w' e'→Fr w e w' e'→Rd w' e' r v→next (a.put o.dst v) w')→o.wpIn (FR rd) 0 P a w next Q
theorem OpOk.sem {o:Oper} {st' : St} {r:AV} {a:Act} {w:World} {e:Env} (h:OpOk P o st' r a w e):OpSem P o st' r a w e:=by
  intro rd next Q hn
  obtain ⟨v,w',e',hs,hc,hf,hr⟩:=h
  refine ⟨fun _ _=>trivial, ?_⟩
  rcases hs with hs | ⟨hs,rfl⟩
  · rw [semAt_ok hs (by simp)]; exact hn v w' e' hc hf hr
  · rw [semAt_ok hs (by simp)]; exact hn _ w' e' hc hf hr
def WOp (P : Program) (o : Oper) (st : St) (K : AV → St → Prop) : Prop :=
  ∀ rd a w e, Conc st a w e → ∀ (next : Act → World → Prop) (Q : Exit → Act → World → Prop),
    (∀ r st' v w' e',K r st'→Conc st' a w' e'→Fr w e w' e'→Rd w' e' r v→next (a.put o.dst v) w')→o.wpIn (FR rd) 0 P a w next Q
theorem WOp.mono {o:Oper} {st:St} {K K' : AV→St→Prop} (h:WOp P o st K) (hk:∀ r s,K r s→K' r s):WOp P o st K':=
  fun rd a w e hc next Q hn=>h rd a w e hc next Q fun r st' v w' e' h1=>hn r st' v w' e' (hk r st' h1)
theorem WOp.eval (hΓ:TOk P Γ) {o:Oper} {st st' : St} {r:AV} {K:AV→St→Prop} (hr:evalAll Γ o st=some (r,st')) (h:K r st'):WOp P o st K:=
  fun rd a w e hc next Q hn=>(evalAll_ok hΓ hr hc).sem rd next Q fun v w' e' h1 h2 h3=>hn r st' v w' e' h h1 h2 h3
def isB (b:Bool):Value→Bool
  | .bool t=>t == b
  | _=>false
@[simp] theorem isB_bool (b t:Bool):isB b (.bool t)=(t == b):=rfl
@[simp] theorem isB_undef (b:Bool):isB b undef=false:=rfl
def wantedA (ops : List Oper) (o : Oper) (st : St) : Option Bool :=
  match o.guard with
  | none=>some true
  | some (g,b)=>match (ops[g]?).bind (·.dst) with
    | some d=>match st.at d with
      | .val v=>some (isB b v)
      | _=>none
    | none=>none
theorem wantedA_ok {ops : Array Oper} {o : Oper} {st : St} {t : Bool} (h : wantedA ops.toList o st = some t) {a : Act} {w : World} {e : Env} (hc : View st a w e) : Region.wanted o (yielded ops a.tmps) = t := by
  unfold wantedA at h
  unfold Region.wanted
  split at h
  · rename_i hg; cases h; simp [hg]
  · rename_i g b hg
    split at h
    · rename_i d hd
      split at h
      · rename_i u hu
        cases h
        have h1:=hc.ev (.tmp d)
        simp only [St.ev,hu] at h1
        have e1:=h1.val_inv
        simp only [Act.eval] at e1
        have hd' : (ops[g]?).bind (·.dst)=some d:=by simpa using hd
        simp only [hg,yielded,hd',Option.bind_some]
        rw [Array.getD_eq_getD_getElem?] at e1
        cases hv:a.tmps[d]? with
        | none=>rw [hv] at e1; obtain rfl:undef=u:=e1; rfl
        | some v =>
          rw [hv] at e1; obtain rfl:v=u:=by simpa using e1
          cases v with
          | bool t=>cases t <;> cases b <;> rfl
          | _=>rfl
      · cases h
    · cases h
def dstOk (o:Oper) (st:St):Bool:=match o.dst with
  | some d=>decide (d < st.nt)
  | none=>true
def WOps (P:Program) (ops:List Oper) (K:St→Prop):List Oper→St→Prop
  | [],st=>K st
  | o :: rest,st=>dstOk o st=true∧∃ t,wantedA ops o st=some t∧if t then WOp P o st (fun r st'=>WOps P ops K rest (st'.put o.dst r)) else ∃ y,(y = .dead∨y = .val undef)∧WOps P ops K rest (st.put o.dst y)
theorem put_nt (st:St) (d:Option Tmp) (x:AV):(st.put d x).nt=st.nt:=by cases d <;> rfl
theorem WOps.sound {rd:Option Nat} {ops:Array Oper} {K:St→Prop} {w0:World} {e0:Env} {Q:Exit→Act→World→Prop} (hQ:∀ st a w e,Conc st a w e→Fr w0 e0 w e→K st→Q .normal a w):∀ (l:List Oper) (k:Nat) (st:St) (a:Act) (w:World) (e:Env),
    (∀ j,l[j]?=ops[k + j]?)→Conc st a w e→Fr w0 e0 w e→WOps P ops.toList K l st→wpOpsIn (FR rd) 0 P ops Q (List.range' k l.length) a w
  | [],k,st,a,w,e,_,hc,hf,h=>hQ st a w e hc hf h
  | o :: l, k, st, a, w, e, hl, hc, hf, h => by
    obtain ⟨hd,t,hw,h⟩:=h
    have ho:ops[k]?=some o:=by have:=hl 0; simpa using this.symm
    have hl' : ∀ j,l[j]?=ops[k + 1 + j]?:=fun j=>by have:=hl (j + 1); rw [show k + 1 + j=k + (j + 1) from by omega]; simpa using this
    have hdd:∀ d,o.dst=some d→d < st.nt:=fun d hd'=>by simp only [dstOk,hd',decide_eq_true_eq] at hd; exact hd
    rw [List.length_cons,List.range'_succ]
    simp only [wpOpsIn,ho]
    rw [wantedA_ok hw hc.view]
    cases t with
    | true =>
      simp only [if_true] at h ⊢
      exact (h rd a w e hc _ _ fun r st' v w' e' hK hc' hf' hr'=>WOps.sound hQ l (k + 1) _ _ _ e' hl' (hc'.put hr' (fun d hd'=>by rw [← hc'.size,hc.size]; exact hdd d hd')) (hf.trans hf') hK)
    | false =>
      simp only [Bool.false_eq_true,if_false] at h ⊢
      obtain ⟨y,hy,h⟩:=h
      exact ⟨fun _ _=>trivial,WOps.sound hQ l (k + 1) _ _ _ e hl' (hc.put (v:=undef) (by rcases hy with rfl | rfl; exact .dead _; exact .data (.val _)) hdd) hf h⟩
/-! ### code -/
class Mode where
  T:Type
  f:T→Option Nat
  out:T
  hout:f out=none
instance anyMode:Mode:=⟨Option Nat,fun x=>x,none,rfl⟩
abbrev outMode:Mode:=⟨Unit,fun _=>none,(),rfl⟩
def W [M:Mode] (P:Program) (c:Code) (st:St) (Q:Exit→St→Prop):Prop:=
  ∀ (rd:M.T) a w e,Conc st a w e→c.wpIn (FR (M.f rd)) 0 P (fun x a' w'=>∃ st' e',Conc st' a' w' e'∧Fr w e w' e'∧Q x st') a w
def thenQ (K:St→Prop) (Q:Exit→St→Prop):Exit→St→Prop
  | .normal,st=>K st
  | x,st=>Q x st
def blockQ (id:Nat) (Q:Exit→St→Prop):Exit→St→Prop
  | .exit id',st=>if id'=id then Q .normal st else Q (.exit id') st
  | x,st=>Q x st
theorem W.mono [M:Mode] {c:Code} {st:St} {Q Q' : Exit→St→Prop} (h:W P c st Q) (hq:∀ x s,Q x s→Q' x s):W P c st Q':=
  fun rd a w e hc=>wpIn_mono (h rd a w e hc) fun x _ _ ⟨s,e',h1,h2,h3⟩=>⟨s,e',h1,h2,hq x s h3⟩
theorem W.region [M:Mode] {id:Nat} {ops:Array Oper} {st:St} {Q:Exit→St→Prop} (h:WOps P ops.toList (Q .normal) ops.toList st):W P (.region id ops false) st Q:=by
  intro rd a w e hc
  refine wpIn_region ?_
  have:=WOps.sound (P:=P) (rd:=M.f rd) (ops:=ops) (K:=Q .normal) (w0:=w) (e0:=e) (Q:=fun x a' w'=>∃ st' e',Conc st' a' w' e'∧Fr w e w' e'∧Q x st') (fun st a w' e' h1 h2 h3=>⟨st,e',h1,h2,h3⟩) ops.toList 0 st a w e (fun j=>by simp) hc (Fr.refl w e) h
  rw [← List.range_eq_range'] at this
  simpa using this
theorem W.skip [M:Mode] {st:St} {Q:Exit→St→Prop} (h:Q .normal st):W P .skip st Q:=fun rd a w e hc=>wpIn_skip ⟨st,e,hc,Fr.refl w e,h⟩
theorem W.label [M:Mode] {l:Nat} {st:St} {Q:Exit→St→Prop} (h:Q .normal st):W P (.label l) st Q:=fun rd a w e hc=>wpIn_label ⟨st,e,hc,Fr.refl w e,h⟩
theorem W.exit [M:Mode] {id:Nat} {st:St} {Q:Exit→St→Prop} (h:Q (.exit id) st):W P (.exit id) st Q:=fun rd a w e hc=>wpIn_exit ⟨st,e,hc,Fr.refl w e,h⟩
theorem W.goto [M:Mode] {l:Nat} {st:St} {Q:Exit→St→Prop} (h:Q (.goto l) st):W P (.goto l) st Q:=fun rd a w e hc=>wpIn_goto ⟨st,e,hc,Fr.refl w e,h⟩
theorem W.ret [M:Mode] {st:St} {Q:Exit→St→Prop} (h:Q .ret st):W P .ret st Q:=fun rd a w e hc=>wpIn_ret ⟨st,e,hc,Fr.refl w e,h⟩
theorem W.seq [M:Mode] {x y:Code} {st:St} {Q:Exit→St→Prop} (h:W P x st (thenQ (fun s=>W P y s Q) Q)):W P (.seq x y) st Q:=by
  intro rd a w e hc
  refine wpIn_seq (wpIn_mono (h rd a w e hc) ?_)
  rintro ex a' w' ⟨s,e',h1,h2,h3⟩
  cases ex with
  | normal=>exact wpIn_mono (h3 rd a' w' e' h1) fun x _ _ ⟨s2,e2,g1,g2,g3⟩=>⟨s2,e2,g1,h2.trans g2,g3⟩
  | exit id=>exact ⟨s,e',h1,h2,h3⟩
  | goto l=>exact ⟨s,e',h1,h2,h3⟩
  | ret=>exact ⟨s,e',h1,h2,h3⟩
  | panic ch=>exact ⟨s,e',h1,h2,h3⟩
  | outgrown=>exact ⟨s,e',h1,h2,h3⟩
theorem W.cond [M:Mode] {c:Operand} {x y:Code} {st:St} {t:Bool} {Q:Exit→St→Prop} (hv:st.ev c = .val (.bool t)) (h:W P (if t then x else y) st Q):W P (.cond c x y) st Q:=by
  intro rd a w e hc
  have h1:=hc.ev c
  rw [hv] at h1
  exact wpIn_cond h1.val_inv (h rd a w e hc)
theorem W.block [M:Mode] {id:Nat} {c:Code} {st:St} {Q:Exit→St→Prop} (h:W P c st (blockQ id Q)):W P (.block id c) st Q:=by
  intro rd a w e hc
  refine wpIn_block (wpIn_mono (h rd a w e hc) ?_)
  rintro ex a' w' ⟨s,e',h1,h2,h3⟩
  cases ex with
  | exit id' =>
    simp only [Exit.inBlock]
    simp only [blockQ] at h3
    split at h3
    · rename_i hid; rw [if_pos hid]; exact ⟨s,e',h1,h2,h3⟩
    · rename_i hid; rw [if_neg hid]; exact ⟨s,e',h1,h2,h3⟩
  | _=>exact ⟨s,e',h1,h2,h3⟩
def noGotoQ (Q:Exit→St→Prop):Exit→St→Prop
  | .goto _,_=>False
  | x,st=>Q x st
theorem stepR_scope' {b:Frame} {a:Act} {k:List Item} {cs:List Frame} {w:World} {c:Code}:step P (lone (b.atR a (.code (.scope c) :: k)) cs w) = .next (lone (b.atR a (.code c :: .inScope c :: k)) cs w):=
  step_lone_go (by simp [stepG,stepG.exec,Frame.atR])
theorem stepR_inScope' {b:Frame} {a:Act} {k:List Item} {cs:List Frame} {w:World} {c:Code}:step P (lone (b.atR a (.inScope c :: k)) cs w) = .next (lone (b.atR a k) cs w):=
  step_lone_go (by simp [stepG,stepG.exec,Frame.atR])
theorem wpIn_scope {F:Fence} {n:Nat} {c:Code} {Q:Exit→Act→World→Prop} {a:Act} {w:World} (h:c.wpIn F n P (Exit.noGoto Q) a w):(Code.scope c).wpIn F n P Q a w:=by
  intro b k cs hro hb hr
  have h0:(lone (b.atR a (.code (.scope c) :: k)) cs w).fenced P F:=fenced_calm hb hr rfl
  obtain ⟨e,a₁,w₁,hq,harr⟩:=h b (.inScope c :: k) cs hro hb hr
  cases e with
  | normal=>exact ⟨.normal,a₁,w₁,hq,.head h0 stepR_scope' (StepsIn.trans harr (.one (fenced_calm hb hr rfl) stepR_inScope'))⟩
  | exit id =>
    have hx:exitTo id (.inScope c :: k)=exitTo id k:=by simp [exitTo]
    exact ⟨.exit id,a₁,w₁,hq,fun k' hk=>.head h0 stepR_scope' (harr.1 k' (by rw [hx]; exact hk)),fun hr' hk=>let ⟨k₁,h1,h2⟩:=harr.2 hr' (by rw [hx]; exact hk); ⟨k₁,h1,.head h0 stepR_scope' h2⟩⟩
  | goto l=>exact hq.elim
  | ret=>exact ⟨_,a₁,w₁,hq,.of_steps (.one h0 stepR_scope') harr⟩
  | panic ch=>exact ⟨_,a₁,w₁,hq,.of_steps (.one h0 stepR_scope') harr⟩
  | outgrown=>exact ⟨_,a₁,w₁,hq,.of_steps (.one h0 stepR_scope') harr⟩
theorem W.scope [M:Mode] {c:Code} {st:St} {Q:Exit→St→Prop} (h:W P c st (noGotoQ Q)):W P (.scope c) st Q:=by
  intro rd a w e hc
  refine wpIn_scope (wpIn_mono (h rd a w e hc) ?_)
  rintro ex a' w' ⟨s,e',h1,h2,h3⟩
  cases ex with
  | goto l=>exact h3.elim
  | _=>exact ⟨s,e',h1,h2,h3⟩
def Le (st st' : St):Prop:=∀ a w e,Conc st a w e→∃ e',Conc st' a w e'∧Fr w e w e'
theorem Le.refl (st:St):Le st st:=fun _ w e h=>⟨e,h,Fr.refl w e⟩
theorem Le.trans {s1 s2 s3:St} (h:Le s1 s2) (k:Le s2 s3):Le s1 s3:=fun a w e hc =>
  let ⟨e1,h1,f1⟩:=h a w e hc; let ⟨e2,h2,f2⟩:=k a w e1 h1; ⟨e2,h2,f1.trans f2⟩
theorem W.weaken [M:Mode] {c:Code} {st st' : St} {Q:Exit→St→Prop} (hl:Le st st') (h:W P c st' Q):W P c st Q:=by
  intro rd a w e hc
  obtain ⟨e',h1,h2⟩:=hl a w e hc
  exact wpIn_mono (h rd a w e' h1) fun x _ _ ⟨s,e2,g1,g2,g3⟩=>⟨s,e2,g1,h2.trans g2,g3⟩
open Classical in
theorem wpIn_loop_ghost {F:Fence} {n:Nat} {Q:Exit→Act→World→Prop} {a:Act} {w:World} {c:Code} (I:Nat→Act→World→Prop) (n₀:Nat) (h₀:I n₀ a w)
    (round:∀ k a w,I k a w→c.wpIn F n P (Exit.then (fun a' w'=>∃ k',k' < k∧I k' a' w') Q) a w):(Code.loop c).wpIn F n P Q a w:=by
  refine wpIn_loop (fun a w=>∃ k,I k a w) (fun a w=>leastOf (fun k=>I k a w)) ⟨n₀,h₀⟩ ?_
  intro a w hI
  refine wpIn_mono (round _ a w (leastOf_spec hI).1) ?_
  intro e a' w' hq
  cases e with
  | normal =>
    obtain ⟨k',hlt,hI'⟩:=hq
    exact ⟨⟨k',hI'⟩,Nat.lt_of_le_of_lt ((leastOf_spec ⟨k',hI'⟩).2 k' hI') hlt⟩
  | _=>exact hq
theorem W.loop [M:Mode] {c:Code} {st:St} {Q:Exit→St→Prop} (I:Nat→St→Prop) (n:Nat) (h0:∃ s,Le st s∧I n s)
    (round:∀ n s,I n s→W P c s (thenQ (fun s'=>∃ n' s'',n' < n∧Le s' s''∧I n' s'') Q)):W P (.loop c) st Q:=by
  intro rd a w e hc
  refine wpIn_loop_ghost (fun n a' w'=>∃ s e',I n s∧Conc s a' w' e'∧Fr w e w' e') n ?_ ?_
  · obtain ⟨s,h1,h2⟩:=h0
    obtain ⟨e',g1,g2⟩:=h1 a w e hc
    exact ⟨s,e',h2,g1,g2⟩
  · rintro n a' w' ⟨s,e',h1,h2,h3⟩
    refine wpIn_mono (round n s h1 rd a' w' e' h2) ?_
    rintro ex a2 w2 ⟨s2,e2,g1,g2,g3⟩
    cases ex with
    | normal =>
      obtain ⟨n',s3,k1,k2,k3⟩:=g3
      obtain ⟨e3,j1,j2⟩:=k2 a2 w2 e2 g1
      exact ⟨n',k1,s3,e3,k3,j1,(h3.trans g2).trans j2⟩
    | exit id=>exact ⟨s2,e2,g1,h3.trans g2,g3⟩
    | goto l=>exact ⟨s2,e2,g1,h3.trans g2,g3⟩
    | ret=>exact ⟨s2,e2,g1,h3.trans g2,g3⟩
    | panic ch=>exact ⟨s2,e2,g1,h3.trans g2,g3⟩
    | outgrown=>exact ⟨s2,e2,g1,h3.trans g2,g3⟩
end
end Go.Sim
namespace Go.Sim
open Go.RowKit
section
variable {P:Program} {Γ:TypeId→Option TI}
/-! ### names of objects -/
mutual
def AV.ren (ρ:Nat→Nat):AV→AV
  | .own i off len=>.own (ρ i) off len
  | .ptr i k off=>.ptr (ρ i) k off
  | .map i=>.map (ρ i)
  | .yld i=>.yld (ρ i)
  | .arr i a b c d=>.arr (ρ i) a b c d
  | .sub i a b=>.sub (ρ i) a b
  | .sptr i a b c=>.sptr (ρ i) a b c
  | .clo f l=>.clo f (AV.renL ρ l)
  | .mth f l=>.mth f (AV.renL ρ l)
  | .agg l=>.agg (AV.renL ρ l)
  | .tup l=>.tup (AV.renL ρ l)
  | x=>x
def AV.renL (ρ:Nat→Nat):List AV→List AV
  | []=>[]
  | x :: xs=>AV.ren ρ x :: AV.renL ρ xs
end
theorem AV.renL_get (ρ:Nat→Nat):∀ (l:List AV) (i:Nat),(AV.renL ρ l)[i]?=(l[i]?).map (AV.ren ρ)
  | [],i=>by simp [AV.renL]
  | x :: xs,i=>by
    cases i with
    | zero=>simp [AV.renL]
    | succ i=>simp [AV.renL,AV.renL_get ρ xs i]
theorem AV.renL_length (ρ:Nat→Nat):∀ (l:List AV),(AV.renL ρ l).length=l.length
  | []=>rfl
  | x :: xs=>by simp [AV.renL,AV.renL_length ρ xs]
mutual
theorem AV.ren_data (ρ:Nat→Nat):∀ x:AV,x.isData=true→x.ren ρ=x
  | .val _,_=>rfl
  | .imm _,_=>rfl
  | .agg l,h=>by simp only [AV.ren]; rw [AV.renL_data ρ l (by simpa [AV.isData] using h)]
theorem AV.renL_data (ρ:Nat→Nat):∀ l:List AV,AV.isDataL l=true→AV.renL ρ l=l
  | [],_=>rfl
  | x :: xs,h=>by
    simp only [AV.isDataL,Bool.and_eq_true] at h
    simp [AV.renL,AV.ren_data ρ x h.1,AV.renL_data ρ xs h.2]
end
mutual
theorem AV.ren_id:∀ x:AV,x.ren (fun i=>i)=x
  | .dead=>rfl
  | .val _=>rfl
  | .imm _=>rfl
  | .own ..=>rfl
  | .ptr ..=>rfl
  | .iptr _=>rfl
  | .map _=>rfl
  | .yld _=>rfl
  | .arr ..=>rfl
  | .sub ..=>rfl
  | .sptr ..=>rfl
  | .clo f l=>by simp only [AV.ren]; rw [AV.renL_id l]
  | .mth f l=>by simp only [AV.ren]; rw [AV.renL_id l]
  | .agg l=>by simp only [AV.ren]; rw [AV.renL_id l]
  | .tup l=>by simp only [AV.ren]; rw [AV.renL_id l]
theorem AV.renL_id:∀ l:List AV,AV.renL (fun i=>i) l=l
  | []=>rfl
  | x :: xs=>by simp [AV.renL,AV.ren_id x,AV.renL_id xs]
end
theorem Rd.ren {w w' : World} {e e' : Env} (ρ : Nat → Nat) {x : AV} {v : Value} (h : Rd w e x v) : (∀ id m, x.men id = true → e.get id = some m → ∃ m', e'.get (ρ id) = some m' ∧ m.same m') →
    ((∀ b,e.q b→b < w.heap.size→w'.heap[b]?=w.heap[b]?∧e'.q b)∨x.free=true)→Rd w' e' (x.ren ρ) v:=by
  induction h with
  | dead v=>exact fun _ _=>.dead v
  | data h =>
    intro hg hq
    rename_i x v
    rcases hq with hq | hq
    · have h2 : Rd w' e' x v := .data (h.evolve hq)
      cases h with
      | val=>exact h2
      | imm0=>exact h2
      | imm=>exact h2
      | agg l vs hs hr =>
        have hd : ∀ (l : List AV) (vs : Array Value), vs.size = l.length → (∀ (i : Nat) (x : AV) (v : Value), l[i]? = some x → vs[i]? = some v → RdD w e.q x v) → AV.renL ρ l = l := by
          intro l vs hs hr
          have aux:∀ x v,RdD w e.q x v→x.ren ρ=x:=by
            intro x v hx
            induction hx with
            | val=>rfl
            | imm0=>rfl
            | imm=>rfl
            | agg l vs hs hr ih =>
              simp only [AV.ren]
              congr 1
              refine List.ext_getElem? fun i=>?_
              rw [AV.renL_get]
              cases hl:l[i]? with
              | none=>rfl
              | some y =>
                have hi:i < vs.size:=by rw [hs]; exact (List.getElem?_eq_some_iff.1 hl).1
                simp [ih i y vs[i] hl (Array.getElem?_eq_getElem hi)]
          refine List.ext_getElem? fun i=>?_
          rw [AV.renL_get]
          cases hl:l[i]? with
          | none=>rfl
          | some y =>
            have hi:i < vs.size:=by rw [hs]; exact (List.getElem?_eq_some_iff.1 hl).1
            simp [aux y vs[i] (hr i y vs[i] hl (Array.getElem?_eq_getElem hi))]
        simp only [AV.ren]
        rw [hd l vs hs hr]; exact h2
    · have aux:∀ x v,RdD w e.q x v→x.free=true→x.ren ρ=x:=by
        intro x v hx
        induction hx with
        | val=>exact fun _=>rfl
        | imm0=>exact fun _=>rfl
        | imm=>exact fun _=>rfl
        | agg l vs hs hr ih =>
          intro hf
          simp only [AV.ren]
          congr 1
          refine List.ext_getElem? fun i=>?_
          rw [AV.renL_get]
          cases hl:l[i]? with
          | none=>rfl
          | some y =>
            have hi:i < vs.size:=by rw [hs]; exact (List.getElem?_eq_some_iff.1 hl).1
            simp [ih i y vs[i] hl (Array.getElem?_eq_getElem hi) (AV.freeL_mem (by simpa [AV.free] using hf) (List.mem_of_getElem? hl))]
      rw [aux _ _ h hq]
      exact .data (h.free hq)
  | own0 id m hm hb a =>
    intro hg _
    obtain ⟨m',h1,h2⟩:=hg id m (by simp [AV.men]) hm
    exact .own0 (ρ id) m' h1 (by rw [h2.1]; exact hb) a
  | own id off len m b hm hb hc =>
    intro hg _
    obtain ⟨m',h1,h2⟩:=hg id m (by simp [AV.men]) hm
    have:=Rd.own (w:=w') (ρ id) off len m' b h1 (by rw [h2.1]; exact hb) (by rw [h2.2.1]; exact hc)
    rwa [h2.2.1,h2.2.2.1] at this
  | ptr id i off m b hm hb =>
    intro hg _
    obtain ⟨m',h1,h2⟩:=hg id m (by simp [AV.men]) hm
    have:=Rd.ptr (w:=w') (ρ id) i off m' b h1 (by rw [h2.1]; exact hb)
    rwa [h2.2.2.1] at this
  | ownX id off len m hm hgo a cap ha hc =>
    intro hg _
    obtain ⟨m',h1,h2⟩:=hg id m (by simp [AV.men]) hm
    exact .ownX (ρ id) off len m' h1 ⟨h2.1.trans hgo.1,h2.2.1.trans hgo.2⟩ a cap ha hc
  | ptrX id i off m hm hgo a =>
    intro hg _
    obtain ⟨m',h1,h2⟩:=hg id m (by simp [AV.men]) hm
    exact .ptrX (ρ id) i off m' h1 ⟨h2.1.trans hgo.1,h2.2.1.trans hgo.2⟩ a
  | arr id i off len cap m b hm hb =>
    intro hg _
    obtain ⟨m',h1,h2⟩:=hg id m (by simp [AV.men]) hm
    have:=Rd.arr (w:=w') (ρ id) i off len cap m' b h1 (by rw [h2.1]; exact hb)
    rwa [h2.2.2.1] at this
  | arrX id i off len cap m hm hgo a =>
    intro hg _
    obtain ⟨m',h1,h2⟩:=hg id m (by simp [AV.men]) hm
    exact .arrX (ρ id) i off len cap m' h1 ⟨h2.1.trans hgo.1,h2.2.1.trans hgo.2⟩ a
  | sub id i len cap m hm =>
    intro hg _
    obtain ⟨m',h1,h2⟩:=hg id m (by simp [AV.men]) hm
    have:=Rd.sub (w:=w') (ρ id) i len cap m' h1
    rwa [h2.2.2.2] at this
  | subX id i len cap m hm hgo a =>
    intro hg _
    obtain ⟨m',h1,h2⟩:=hg id m (by simp [AV.men]) hm
    exact .subX (ρ id) i len cap m' h1 ⟨h2.1.trans hgo.1,h2.2.1.trans hgo.2⟩ a
  | sptr id i k off m hm =>
    intro hg _
    obtain ⟨m',h1,h2⟩:=hg id m (by simp [AV.men]) hm
    have:=Rd.sptr (w:=w') (ρ id) i k off m' h1
    rwa [h2.2.2.2] at this
  | sptrX id i k off m hm hgo a =>
    intro hg _
    obtain ⟨m',h1,h2⟩:=hg id m (by simp [AV.men]) hm
    exact .sptrX (ρ id) i k off m' h1 ⟨h2.1.trans hgo.1,h2.2.1.trans hgo.2⟩ a
  | iptr l b off vals hne hqb hc hr =>
    intro hg hq
    rcases hq with hq | hq
    · obtain ⟨y0,ys,rfl⟩:=List.exists_cons_of_ne_nil hne
      have hb:b < w.heap.size:=World.block_lt_of_cell? _ _ (hc 0 y0 (by simp))
      obtain ⟨hh,hq'⟩:=hq b hqb hb
      exact .iptr _ b off vals hne hq' (fun j y hy=>by rw [← hc j y hy]; exact World.cell?_of_block hh) (fun j y hy=>(hr j y hy).evolve hq)
    · simp [AV.free] at hq
  | map id m b hm hb =>
    intro hg _
    obtain ⟨m',h1,h2⟩:=hg id m (by simp [AV.men]) hm
    exact .map (ρ id) m' b h1 (by rw [h2.1]; exact hb)
  | yld id m b hm hb =>
    intro hg _
    obtain ⟨m',h1,h2⟩:=hg id m (by simp [AV.men]) hm
    exact .yld (ρ id) m' b h1 (by rw [h2.1]; exact hb)
  | mapX id m hm hgo b =>
    intro hg _
    obtain ⟨m',h1,h2⟩:=hg id m (by simp [AV.men]) hm
    exact .mapX (ρ id) m' h1 ⟨h2.1.trans hgo.1,h2.2.1.trans hgo.2⟩ b
  | yldX id m hm hgo b =>
    intro hg _
    obtain ⟨m',h1,h2⟩:=hg id m (by simp [AV.men]) hm
    exact .yldX (ρ id) m' h1 ⟨h2.1.trans hgo.1,h2.2.1.trans hgo.2⟩ b
  | clo f l vs hs hr ih =>
    intro hg hq
    simp only [AV.ren]
    refine .clo f _ vs (by rw [AV.renL_length]; exact hs) fun i x v hx hv=>?_
    rw [AV.renL_get] at hx
    obtain ⟨y,hy,rfl⟩:=Option.map_eq_some_iff.1 hx
    exact ih i y v hy hv (fun id m hid=>hg id m (by simp only [AV.men]; exact AV.menL_of (List.mem_of_getElem? hy) hid)) (hq.imp id fun h=>by simp [AV.free] at h)
  | mth f l vs hs hr ih =>
    intro hg hq
    simp only [AV.ren]
    refine .mth f _ vs (by rw [AV.renL_length]; exact hs) fun i x v hx hv=>?_
    rw [AV.renL_get] at hx
    obtain ⟨y,hy,rfl⟩:=Option.map_eq_some_iff.1 hx
    exact ih i y v hy hv (fun id m hid=>hg id m (by simp only [AV.men]; exact AV.menL_of (List.mem_of_getElem? hy) hid)) (hq.imp id fun h=>by simp [AV.free] at h)
  | agg l vs hs hr ih =>
    intro hg hq
    simp only [AV.ren]
    refine .agg _ vs (by rw [AV.renL_length]; exact hs) fun i x v hx hv=>?_
    rw [AV.renL_get] at hx
    obtain ⟨y,hy,rfl⟩:=Option.map_eq_some_iff.1 hx
    exact ih i y v hy hv (fun id m hid=>hg id m (by simp only [AV.men]; exact AV.menL_of (List.mem_of_getElem? hy) hid)) (hq.imp id fun h=>AV.freeL_mem (by simpa [AV.free] using h) (List.mem_of_getElem? hy))
  | tup l vs hs hr ih =>
    intro hg hq
    simp only [AV.ren]
    refine .tup _ vs (by rw [AV.renL_length]; exact hs) fun i x v hx hv=>?_
    rw [AV.renL_get] at hx
    obtain ⟨y,hy,rfl⟩:=Option.map_eq_some_iff.1 hx
    exact ih i y v hy hv (fun id m hid=>hg id m (by simp only [AV.men]; exact AV.menL_of (List.mem_of_getElem? hy) hid)) (hq.imp id fun h=>AV.freeL_mem (by simpa [AV.free] using h) (List.mem_of_getElem? hy))
/-! ### contracts -/
def Callable (P : Program) (f : FuncId) : Prop := ∃ fn, P.funcs[f]? = some fn ∧ (fn.name == "runtime.NumGoroutine") = false ∧ fn.body.isNone = false
structure ACalls (P:Program) (f:FuncId) (args:List AV) (objs:List (Nat×Obj)) (R:AV→List (Nat×Obj)→Prop):Prop where
  able:Callable P f
  run:∀ w e (vals:Array Value),Sim w e objs→vals.size=args.length→(∀ (i:Nat) (x:AV) (v:Value),args[i]?=some x→vals[i]?=some v→Rd w e x v) →
    Calls P f vals w fun en w'=>∃ v res objs' e',en = .returned v∧R res objs'∧Sim w' e' objs'∧Fr w e w' e'∧Rd w' e' res v
theorem ACalls.mono {f:FuncId} {args:List AV} {objs:List (Nat×Obj)} {R R' : AV→List (Nat×Obj)→Prop} (h:ACalls P f args objs R) (hr:∀ r o,R r o→R' r o):ACalls P f args objs R':=
  ⟨h.able,fun w e vals h1 h2 h3=>(h.run w e vals h1 h2 h3).mono fun en w' ⟨v,res,objs',e',a,b,c⟩=>⟨v,res,objs',e',a,hr _ _ b,c⟩⟩
theorem upon_call {o:Oper} {f:Operand} {args:Array Operand} {tys:Array TypeId} (ho:o.op = .call { callee:=.value f,args,argTypes:=tys }) {a:Act} {g:FuncId} {fsts caps:Array Value} (hf:a.eval f = .func (.func g) fsts caps) (hg:Callable P g)
    {rd:Option Nat} {w:World} {next:Act→World→Prop} {Q:Exit→Act→World→Prop}
    (h:Calls P g (fsts ++ args.map a.eval ++ caps) w fun | .returned v,w''=>next (a.put o.dst v) w'' | .panicked chain,w''=>Q (.panic chain) a w'' | .outgrown,_=>LetsOut Q):o.wpIn (FR rd) 0 P a w next Q:=by
  obtain ⟨fn,h1,h2,h3⟩:=hg
  refine ⟨fun _ _=>trivial, ?_⟩
  have hrun:(execOp a.eval o).run P w = .ok (.enter g (fsts ++ args.map a.eval ++ caps)) w:=by
    have h2' : ¬ fn.name = "runtime.NumGoroutine" := by simpa using h2
    have h3' : ¬ fn.body=none:=fun hb=>by rw [hb] at h3; simp at h3
    simp [execOp,ho,resolve,hf,Deferred.ofValue,invoke,callFunc,h1,h2',h3']
  rw [semAt_ok hrun (by simp)]
  exact ⟨fun hd=>by simp [FR] at hd,callsIn_FR h⟩
/-! ### handing things to a function -/
mutual
def AV.named (l:List Nat):AV→Bool
  | .own i _ _=>l.contains i
  | .ptr i _ _=>l.contains i
  | .map i=>l.contains i
  | .yld i=>l.contains i
  | .arr i _ _ _ _=>l.contains i
  | .sub i _ _=>l.contains i
  | .sptr i _ _ _=>l.contains i
  | .clo _ xs=>AV.namedL l xs
  | .mth _ xs=>AV.namedL l xs
  | .agg xs=>AV.namedL l xs
  | .tup xs=>AV.namedL l xs
  | _=>true
def AV.namedL (l:List Nat):List AV→Bool
  | []=>true
  | x :: xs=>AV.named l x && AV.namedL l xs
end
mutual
theorem AV.named_men {l:List Nat} {id:Nat}:∀ (x:AV),x.named l=true→x.men id=true→id∈l
  | .own i _ _,h,hm=>by simp [AV.named,AV.men] at h hm; subst hm; exact h
  | .ptr i _ _,h,hm=>by simp [AV.named,AV.men] at h hm; subst hm; exact h
  | .map i,h,hm=>by simp [AV.named,AV.men] at h hm; subst hm; exact h
  | .yld i,h,hm=>by simp [AV.named,AV.men] at h hm; subst hm; exact h
  | .arr i _ _ _ _,h,hm=>by simp [AV.named,AV.men] at h hm; subst hm; exact h
  | .sub i _ _,h,hm=>by simp [AV.named,AV.men] at h hm; subst hm; exact h
  | .sptr i _ _ _,h,hm=>by simp [AV.named,AV.men] at h hm; subst hm; exact h
  | .clo _ xs,h,hm=>AV.namedL_men xs (by simpa [AV.named] using h) (by simpa [AV.men] using hm)
  | .mth _ xs,h,hm=>AV.namedL_men xs (by simpa [AV.named] using h) (by simpa [AV.men] using hm)
  | .agg xs,h,hm=>AV.namedL_men xs (by simpa [AV.named] using h) (by simpa [AV.men] using hm)
  | .tup xs,h,hm=>AV.namedL_men xs (by simpa [AV.named] using h) (by simpa [AV.men] using hm)
  | .dead,_,hm=>by simp [AV.men] at hm
  | .val _,_,hm=>by simp [AV.men] at hm
  | .imm _,_,hm=>by simp [AV.men] at hm
  | .iptr _,_,hm=>by simp [AV.men] at hm
theorem AV.namedL_men {l:List Nat} {id:Nat}:∀ (xs:List AV),AV.namedL l xs=true→AV.menL id xs=true→id∈l
  | [],_,hm=>by simp [AV.menL] at hm
  | x :: xs,h,hm=>by
    simp only [AV.namedL,Bool.and_eq_true] at h
    simp only [AV.menL,Bool.or_eq_true] at hm
    rcases hm with hm | hm
    · exact AV.named_men x h.1 hm
    · exact AV.namedL_men xs h.2 hm
end
def findOld (id:Nat):List (Nat×Nat)→Option Nat
  | []=>none
  | (n,o) :: r=>if o=id then some n else findOld id r
def expName (ks:List (Nat×Nat)) (id:Nat):Nat:=(findOld id ks).getD id
def Obj.ren (ρ:Nat→Nat):Obj→Obj
  | .row false ty sz els=>.row false ty sz (els.map (AV.mapCells (AV.ren ρ)))
  | .mp false sh ents=>.mp false sh (ents.map fun y=>(y.1,y.2.ren ρ))
  | o=>o
def distinct:List Nat→Bool
  | []=>true
  | x :: r=>!r.contains x && distinct r
def Obj.named (l:List Nat):Obj→Bool
  | .row false _ _ els=>els.all fun x=>AV.namedL l x.cells
  | .mp false _ ents=>ents.all fun x=>x.2.named l
  | _=>true
theorem findOld_look : ∀ {ks : List (Nat × Nat)} {id n : Nat}, distinct (ks.map (·.1)) = true → findOld id ks = some n → look n ks = some id
  | (k, o) :: r, id, n, hd, h => by
    simp only [List.map_cons,distinct,Bool.and_eq_true,Bool.not_eq_true',List.contains_eq_mem,decide_eq_false_iff_not] at hd
    simp only [findOld] at h
    simp only [look]
    split at h
    · rename_i ho; cases h; subst ho; simp
    · have ih:=findOld_look hd.2 h
      rw [if_neg]
      · exact ih
      · intro hk; subst hk
        exact hd.1 (List.mem_map.2 ⟨_,look_mem ih,rfl⟩)
theorem look_findOld : ∀ {ks : List (Nat × Nat)} {id n : Nat}, distinct (ks.map (·.2)) = true → look n ks = some id → findOld id ks = some n
  | (k, o) :: r, id, n, hd, h => by
    simp only [List.map_cons,distinct,Bool.and_eq_true,Bool.not_eq_true',List.contains_eq_mem,decide_eq_false_iff_not] at hd
    simp only [look] at h
    simp only [findOld]
    split at h
    · rename_i ho; cases h; subst ho; simp
    · have ih:=look_findOld hd.2 h
      rw [if_neg]
      · exact ih
      · intro hk; subst hk
        exact hd.1 (List.mem_map.2 ⟨_,look_mem h,rfl⟩)
theorem findOld_mem:∀ {ks:List (Nat×Nat)} {id:Nat},id∈ks.map (·.2)→∃ n,findOld id ks=some n
  | (k,o) :: r,id,h=>by
    simp only [findOld]
    split
    · exact ⟨k,rfl⟩
    · rename_i hne
      refine findOld_mem (ks:=r) ?_
      simp only [List.map_cons,List.mem_cons] at h
      rcases h with h | h
      · exact absurd h.symm hne
      · exact h
theorem ren_mapCells (ρ:Nat→Nat) (x:AV):(x.mapCells (AV.ren ρ)).cells=x.cells.map (AV.ren ρ):=by
  cases x <;> rfl
def St.snap1 (st : St) (ps : List (Nat × Nat)) (x : AV) : Option (AV × Bool) :=
  match x with
  | .own id off len=>match findOld id ps with
    | some n=>some (.own n off len,false)
    | none=>match look id st.objs with
      | some (.row true _ sz els)=>if off + len≤els.length∧0 < sz then some (.imm ((els.drop off).take len),true) else none
      | some (.fix _ sz _ els)=>if off + len≤els.length∧0 < sz then some (.imm ((els.drop off).take len),true) else none
      | _=>none
  | .val (.slice none 0 0)=>some (.imm [],false)
  | x=>if x.isData then some (x,false) else if x.named (ps.map (·.2)) then some (x.ren (expName ps),false) else none
def St.snapL (st : St) (ps : List (Nat × Nat)) : List AV → Option (List AV × Bool)
  | []=>some ([],false)
  | x :: xs=>match st.snap1 ps x,st.snapL ps xs with
    | some (y,b),some (ys,c)=>some (y :: ys,b || c)
    | _,_=>none
def St.snap (st : St) (ps : List (Nat × Nat)) (x : AV) : Option (AV × Bool) :=
  match x with
  | .agg l=>match st.snapL ps l with
    | some (ys,b)=>some (.agg ys,b)
    | none=>none
  | x=>st.snap1 ps x
def St.snaps (st : St) (ps : List (Nat × Nat)) : List AV → Option (List AV × Bool)
  | []=>some ([],false)
  | x :: xs=>match st.snap ps x,st.snaps ps xs with
    | some (y,b),some (ys,c)=>some (y :: ys,b || c)
    | _,_=>none
def Env.subOwn (e:Env) (ps:List (Nat×Nat)) (x:Nat):Prop:=∃ n m,(look n ps).bind e.get=some m∧m.has x
def Env.view (e:Env) (ps:List (Nat×Nat)) (b:Bool):Env:={ get:=fun n=>(look n ps).bind e.get,pr:=fun x=>(if b then e.pr x else e.q x)∨e.subOwn ps x,bs:=e.bs }
theorem subOwn_owned {e:Env} {ps:List (Nat×Nat)} {x:Nat} (h:e.subOwn ps x):e.owned x:=by
  obtain ⟨n,m,h1,h2⟩:=h
  cases hl:look n ps with
  | none=>rw [hl] at h1; cases h1
  | some id=>rw [hl] at h1; exact ⟨id,m,h1,h2⟩
theorem view_q {e:Env} {ps:List (Nat×Nat)} {b:Bool} (hp:∀ x,e.owned x→e.pr x) {x:Nat} (h:e.q x):(e.view ps b).q x:=by
  refine ⟨.inl ?_,fun ho=>h.2 (subOwn_owned ho)⟩
  cases b
  · exact h
  · exact h.1
theorem view_shown {e:Env} {ps:List (Nat×Nat)} (hp:∀ x,e.owned x→e.pr x) {x:Nat} (h:e.owned x) (hn:¬ e.subOwn ps x):(e.view ps true).q x:=⟨.inl (hp x h),hn⟩
theorem view_mono {e:Env} {ps:List (Nat×Nat)} {b b' : Bool} (hb:b'=true→b=true) {x:Nat} (h:(e.view ps b').q x):(e.view ps b).q x:=by
  refine ⟨?_,h.2⟩
  rcases h.1 with h1 | h1
  · refine .inl ?_
    cases b <;> cases b' <;> simp_all [Env.q]
  · exact .inr h1
theorem Rd.view {w:World} {e:Env} {ps:List (Nat×Nat)} {b b' : Bool} (hb:b'=true→b=true) {x:AV} {v:Value} (h:Rd w (e.view ps b') x v):Rd w (e.view ps b) x v:=
  h.evolve (fun n hn hlt=>⟨rfl,view_mono hb hn⟩) (fun _ _=>rfl)
def psOk (ps:List (Nat×Nat)):Bool:=distinct (ps.map (·.1)) && distinct (ps.map (·.2)) && ps.all fun x=>(decide (10000≤x.1) && decide (x.1 < 15000)) || (x.1 == 19999 && x.2 == 19999)
theorem psOk_1 {ps:List (Nat×Nat)} (h:psOk ps=true):distinct (ps.map (·.1))=true:=by simp only [psOk,Bool.and_eq_true] at h; exact h.1.1
theorem psOk_2 {ps:List (Nat×Nat)} (h:psOk ps=true):distinct (ps.map (·.2))=true:=by simp only [psOk,Bool.and_eq_true] at h; exact h.1.2
theorem psOk_3 {ps:List (Nat×Nat)} (h:psOk ps=true) {n id:Nat} (hl:look n ps=some id):(10000≤n∧n < 15000)∨(n=19999∧id=19999):=by
  simp only [psOk,Bool.and_eq_true,List.all_eq_true] at h
  have:=h.2 _ (look_mem hl)
  simpa using this
def psOkL (ps:List (Nat×Nat)):Bool:=distinct (ps.map (·.1)) && distinct (ps.map (·.2)) && ps.all fun x=>(decide (10000≤x.1) && decide (x.1 < 15000)) || (x.1 == 19999 && x.2 == 19999) || (decide (15000≤x.1) && decide (x.1 < 19999) && unp x.2)
theorem psOkL_1 {ps:List (Nat×Nat)} (h:psOkL ps=true):distinct (ps.map (·.1))=true:=by simp only [psOkL,Bool.and_eq_true] at h; exact h.1.1
theorem psOkL_2 {ps:List (Nat×Nat)} (h:psOkL ps=true):distinct (ps.map (·.2))=true:=by simp only [psOkL,Bool.and_eq_true] at h; exact h.1.2
theorem psOkL_3 {ps:List (Nat×Nat)} (h:psOkL ps=true) {n id:Nat} (hl:look n ps=some id):(10000≤n∧n < 15000)∨(n=19999∧id=19999)∨(15000≤n∧n < 19999∧unp id=true):=by
  simp only [psOkL,Bool.and_eq_true,List.all_eq_true] at h
  have:=h.2 _ (look_mem hl)
  simp only [Bool.or_eq_true,Bool.and_eq_true,decide_eq_true_eq,beq_iff_eq] at this
  rcases this with (h1 | h1) | h1
  · exact .inl h1
  · exact .inr (.inl h1)
  · exact .inr (.inr ⟨h1.1.1,h1.1.2,h1.2⟩)
theorem psOkL_lt {ps:List (Nat×Nat)} (h:psOkL ps=true) {n id:Nat} (hl:look n ps=some id):10000≤n∧n < 20000:=by
  rcases psOkL_3 h hl with h1 | ⟨h1,_⟩ | ⟨h1,h2,_⟩ <;> omega
theorem psOk_l {ps:List (Nat×Nat)} (h:psOk ps=true):psOkL ps=true:=by
  simp only [psOk,psOkL,Bool.and_eq_true,List.all_eq_true] at h ⊢
  exact ⟨h.1,fun x hx=>by rw [h.2 x hx,Bool.true_or]⟩
def looseOk (ps:List (Nat×Nat)) (tm:List (Nat×AV)):Bool:=ps.all fun x=>decide (x.1 < 15000) || x.1 == 19999 || tm.all fun y=>!(y.2.men x.2)
def looseTm (qs:List (Nat×Nat)) (tm:List (Nat×AV)):Bool:=qs.all fun x=>decide (x.1 < 15000) || x.1 == 19999 || tm.all fun y=>!(y.2.men x.1)
theorem Rd.handOn {w:World} {e:Env} {ps:List (Nat×Nat)} {b:Bool} (hps:psOkL ps=true) (hp:∀ x,e.owned x→e.pr x) {x:AV} {v:Value} (h:Rd w e x v) (hn:x.named (ps.map (·.2))=true):Rd w (e.view ps b) (x.ren (expName ps)) v:=by
  refine h.ren (expName ps) (fun id m hm hg=>?_) (.inl fun n hn _=>⟨rfl,view_q hp hn⟩)
  obtain ⟨n,h1⟩:=findOld_mem (AV.named_men x hn hm)
  have h2:=findOld_look (psOkL_1 hps) h1
  refine ⟨m, ?_,m.same_refl⟩
  show (look (expName ps id) ps).bind e.get=some m
  rw [show expName ps id=n from by simp [expName,h1],h2]; exact hg
theorem snap1_rd {st : St} {a : Act} {w : World} {e : Env} {ps : List (Nat × Nat)} (hps : psOkL ps = true) (h : View st a w e) (hp : ∀ b, e.owned b → e.pr b) (hinj : ∀ i j m m' b, e.get i = some m → e.get j = some m' → m.has b → m'.has b → i = j)
    {x y:AV} {b:Bool} {v:Value} (hs:st.snap1 ps x=some (y,b)) (hx:Rd w e x v):Rd w (e.view ps b) y v:=by
  unfold St.snap1 at hs
  split at hs
  · rename_i id off len
    split at hs
    · rename_i n hf
      cases hs
      have h2:=findOld_look (psOkL_1 hps) hf
      have:=hx.handOn (b:=false) hps hp (by simp only [AV.named,List.contains_eq_mem,decide_eq_true_eq]; exact List.mem_map.2 ⟨(n,id),look_mem h2,rfl⟩)
      simpa [AV.ren,expName,hf] using this
    · rename_i hno
      have main : ∀ (ty : TypeId) (sz : Nat) (els : List AV), (∀ m, e.get id = some m → RowOk w e m true ty sz els) → off + len ≤ els.length ∧ 0 < sz → Rd w (e.view ps true) (.imm ((els.drop off).take len)) v := by
        intro ty sz els hok hc
        obtain ⟨hle,hz⟩:=hc
        refine .data ?_
        cases hx with
        | data hx=>cases hx
        | own0 _ m hm hb a0=>simpa using RdD.imm0 a0 0
        | ownX _ _ _ m hm hg=>exact absurd hg (hok m hm).ngone
        | own _ _ _ m b hm hb hc =>
          have hk:=hok m hm
          have hkb:=hk.blk
          simp only [hb] at hkb
          obtain ⟨cur,h1,h2,h3⟩:=hkb
          have hms:m.sz=sz:=hk.hsz
          have hpr:(e.view ps true).q b:=view_shown hp ⟨id,m,hm,.inl hb⟩ (by
            rintro ⟨n,m',g1,g2⟩
            cases hl:look n ps with
            | none=>rw [hl] at g1; cases g1
            | some id' =>
              rw [hl] at g1
              have:=hinj id' id m' m b g1 hm g2 (.inl hb)
              subst this
              rw [look_findOld (psOkL_2 hps) hl] at hno; cases hno)
          by_cases h0:len=0
          · subst h0; simpa using RdD.imm0 (some _) _
          · have hl:((els.drop off).take len).length=len:=by simp; omega
            have hget:∀ (k:Nat) (x:AV),((els.drop off).take len)[k]?=some x→els[off + k]?=some x:=by
              intro k x hx
              rw [List.getElem?_take] at hx
              split at hx
              · rwa [List.getElem?_drop] at hx
              · cases hx
            have:=RdD.imm (w:=w) (q:=(e.view ps true).q) ((els.drop off).take len) b (off * m.sz) (m.cap - off) sz (fun k j=>(w.cell? ⟨b,off * m.sz + k * sz + j,none⟩).getD undef)
              (by intro hnil; rw [hnil] at hl; simp at hl; exact h0 hl.symm) hz hpr (by rw [hl]; have:=hk.cap; omega) (by rw [hl]; omega)
              (fun x hx=>hk.cells x (List.mem_of_mem_drop (List.mem_of_mem_take hx)))
              (fun k x hx j y hy=>by
                obtain ⟨v,g1,g2,_⟩:=h3 _ x (hget k x hx) j y hy
                rw [show off * m.sz + k * sz + j=(off + k) * sz + j from by rw [hms,Nat.add_mul]]
                rw [cell_of_row w b _ cur ty (0,0) h1,g1]; exact ⟨rfl,g2⟩)
              (fun k x hx j y hy=>by
                obtain ⟨v,g1,g2,g3⟩:=h3 _ x (hget k x hx) j y hy
                rw [show off * m.sz + k * sz + j=(off + k) * sz + j from by rw [hms,Nat.add_mul]]
                rw [cell_of_row w b _ cur ty (0,0) h1,g1]
                simp only [CellRd,if_true] at g3
                exact g3.evolve fun n hn hlt=>⟨rfl,view_q hp hn⟩)
            rw [hl] at this
            exact this
      split at hs
      · rename_i ty sz els ho
        split at hs
        · rename_i hc
          cases hs
          exact main ty sz els (fun m hm=>h.obj id _ m ho hm) hc
        · cases hs
      · rename_i ty sz cap els ho
        split at hs
        · rename_i hc
          cases hs
          exact main ty sz els (fun m hm=>(h.obj id _ m ho hm).1) hc
        · cases hs
      · cases hs
  · cases hs
    obtain rfl:=hx.val_inv
    exact .data (.imm0 none 0)
  · split at hs
    · rename_i hd
      cases hs
      exact .data ((hx.toData hd).evolve fun n hn hlt=>⟨rfl,view_q hp hn⟩)
    · split at hs
      · rename_i hn
        cases hs
        exact hx.handOn hps hp hn
      · cases hs
theorem snapL_rd {st:St} {a:Act} {w:World} {e:Env} {ps:List (Nat×Nat)} (hps:psOkL ps=true) (h:View st a w e) (hp:∀ b,e.owned b→e.pr b) (hinj:∀ i j m m' b,e.get i=some m→e.get j=some m'→m.has b→m'.has b→i=j):∀ {l ys:List AV} {b:Bool},st.snapL ps l=some (ys,b)→ys.length=l.length∧∀ (i:Nat) (x y:AV) (v:Value),l[i]?=some x→ys[i]?=some y→Rd w e x v→Rd w (e.view ps b) y v
  | [],ys,b,hs=>by cases hs; exact ⟨rfl,fun i x y v hx=>by simp at hx⟩
  | x :: xs, ys, b, hs => by
    simp only [St.snapL] at hs
    split at hs
    · rename_i y b1 ys' c h1 h2
      cases hs
      obtain ⟨l1,k1⟩:=snapL_rd hps h hp hinj h2
      refine ⟨by simp [l1],fun i z y' v hz hy hv=>?_⟩
      cases i with
      | zero=>simp at hz hy; subst hz; subst hy; exact (snap1_rd hps h hp hinj h1 hv).view (fun hb=>by simp [hb])
      | succ i=>exact (k1 i z y' v (by simpa using hz) (by simpa using hy) hv).view (fun hb=>by simp [hb])
    · cases hs
theorem snap_rd {st:St} {a:Act} {w:World} {e:Env} {ps:List (Nat×Nat)} (hps:psOkL ps=true) (h:View st a w e) (hp:∀ b,e.owned b→e.pr b) (hinj:∀ i j m m' b,e.get i=some m→e.get j=some m'→m.has b→m'.has b→i=j) {x y:AV} {b:Bool} {v:Value} (hs:st.snap ps x=some (y,b)) (hx:Rd w e x v):Rd w (e.view ps b) y v:=by
  unfold St.snap at hs
  split at hs
  · rename_i l
    split at hs
    · rename_i ys b1 h1
      cases hs
      obtain ⟨l1,k1⟩:=snapL_rd hps h hp hinj h1
      obtain ⟨vs,rfl,hsz,hr⟩:=hx.agg_inv
      refine .agg _ vs (by rw [hsz,l1]) fun i y u hy hu=>?_
      have hlt:i < l.length:=by rw [← l1]; exact (List.getElem?_eq_some_iff.1 hy).1
      exact k1 i _ y u (List.getElem?_eq_getElem hlt) hy (hr i _ u (List.getElem?_eq_getElem hlt) hu)
    · cases hs
  · exact snap1_rd hps h hp hinj hs hx
theorem snaps_rd {st:St} {a:Act} {w:World} {e:Env} {ps:List (Nat×Nat)} (hps:psOkL ps=true) (h:View st a w e) (hp:∀ b,e.owned b→e.pr b) (hinj:∀ i j m m' b,e.get i=some m→e.get j=some m'→m.has b→m'.has b→i=j):∀ {l ys:List AV} {b:Bool},st.snaps ps l=some (ys,b)→ys.length=l.length∧∀ (i:Nat) (x y:AV) (v:Value),l[i]?=some x→ys[i]?=some y→Rd w e x v→Rd w (e.view ps b) y v
  | [],ys,b,hs=>by cases hs; exact ⟨rfl,fun i x y v hx=>by simp at hx⟩
  | x :: xs, ys, b, hs => by
    simp only [St.snaps] at hs
    split at hs
    · rename_i y b1 ys' c h1 h2
      cases hs
      obtain ⟨l1,k1⟩:=snaps_rd hps h hp hinj h2
      refine ⟨by simp [l1],fun i z y' v hz hy hv=>?_⟩
      cases i with
      | zero=>simp at hz hy; subst hz; subst hy; exact (snap_rd hps h hp hinj h1 hv).view (fun hb=>by simp [hb])
      | succ i=>exact (k1 i z y' v (by simpa using hz) (by simpa using hy) hv).view (fun hb=>by simp [hb])
    · cases hs
end
end Go.Sim
namespace Go.Sim
open Go.RowKit
section
variable {P:Program} {Γ:TypeId→Option TI}
def St.callee (st:St) (f:Operand):Option (FuncId×List AV):=
  match st.ev f with
  | .clo g caps=>some (g,caps)
  | .mth g _=>some (g,[])
  | _=>none
def St.bound (st:St) (f:Operand):List AV:=
  match st.ev f with
  | .mth _ l=>l
  | _=>[]
def St.calleeC (st:St) (f:Operand):Option (FuncId×List AV):=
  match st.ev f with
  | .clo g caps=>some (g,caps)
  | _=>none
theorem callee_rd' {st:St} {a:Act} {w:World} {e:Env} (h:View st a w e) {f:Operand} {g:FuncId} {caps:List AV} (hf:st.callee f=some (g,caps)) :
    ∃ us vs:Array Value,a.eval f = .func (.func g) us vs∧us.size=(st.bound f).length∧(∀ (i:Nat) (x:AV) (v:Value),(st.bound f)[i]?=some x→us[i]?=some v→Rd w e x v)∧vs.size=caps.length∧∀ (i:Nat) (x:AV) (v:Value),caps[i]?=some x→vs[i]?=some v→Rd w e x v:=by
  unfold St.callee at hf
  unfold St.bound
  have h1:=h.ev f
  split at hf
  · rename_i g' caps' hx
    cases hf
    rw [hx] at h1 ⊢
    obtain ⟨vs,q1,q2,q3⟩:=h1.clo_inv
    exact ⟨#[],vs,q1,rfl,fun i x v hx=>by simp at hx,q2,q3⟩
  · rename_i g' l hx
    cases hf
    rw [hx] at h1 ⊢
    obtain ⟨vs,q1,q2,q3⟩:=h1.mth_inv
    exact ⟨vs,#[],q1,q2,q3,rfl,fun i x v hx=>by simp at hx⟩
  · cases hf
theorem callee_rd {st:St} {a:Act} {w:World} {e:Env} (h:View st a w e) {f:Operand} {g:FuncId} {caps:List AV} (hf:st.calleeC f=some (g,caps)) :
    ∃ vs:Array Value,a.eval f = .func (.func g) #[] vs∧vs.size=caps.length∧∀ (i:Nat) (x:AV) (v:Value),caps[i]?=some x→vs[i]?=some v→Rd w e x v:=by
  unfold St.calleeC at hf
  have h1:=h.ev f
  split at hf
  · rename_i g' caps' hx
    cases hf
    rw [hx] at h1
    exact h1.clo_inv
  · cases hf
def atSlot (d:Nat) (id:Nat):Nat:=if 20000≤id then 8 * d + (id - 20000) else id
def outName (ps:List (Nat×Nat)) (d n:Nat):Nat:=match look n ps with
  | some id=>id
  | none=>atSlot d n
def St.objsFor (st : St) (all : List (Nat × Nat)) : List (Nat × Nat) → Option (List (Nat × Obj))
  | []=>some []
  | (n,id) :: r=>match look id st.objs,St.objsFor st all r with
    | some o,some os=>if o.named (all.map (·.2)) then some ((n,o.ren (expName all)) :: os) else none
    | _,_=>none
def backOk (ps:List (Nat×Nat)) (d:Nat) (objs:List (Nat×Obj)):Bool:=
  (objs.all fun x=>(look x.1 ps).isSome || (decide (20000≤x.1) && decide (x.1 < 20008))) && ps.all fun x=>!(decide (8 * d≤x.2) && decide (x.2 < 8 * d + 8))
def St.killIds (st:St):List Nat→St
  | []=>st
  | id :: r=>St.killIds (st.turn id (AV.kill id)) r
def delAll {α:Type}:List Nat→List (Nat×α)→List (Nat×α)
  | [],l=>l
  | t :: r,l=>delAll r (del t l)
def newIds (d:Nat):List (Nat×Obj)→List Nat
  | []=>[]
  | (n,_) :: r=>if 20000≤n then atSlot d n :: newIds d r else newIds d r
def St.adopt (st:St) (ps:List (Nat×Nat)) (d:Nat) (objs:List (Nat×Obj)):St:=
  let s:=st.killIds (newIds d objs)
  { s with objs:=(objs.map fun x=>(outName ps d x.1,x.2.ren (outName ps d))) ++ delAll (ps.map (·.2)) s.objs }
theorem look_delAll {α:Type} (s:Nat):∀ (ts:List Nat) (l:List (Nat×α)),look s (delAll ts l)=if s∈ts then none else look s l
  | [],l=>by simp [delAll]
  | t :: r, l => by
    simp only [delAll,look_delAll s r (del t l),look_del,List.mem_cons]
    by_cases h1:s∈r
    · simp [h1]
    · by_cases h2:t=s
      · subst h2; simp
      · simp [h1,h2,Ne.symm h2]
theorem kill_conc {st : St} {a : Act} {w : World} {e : Env} (h : Conc st a w e) : ∀ (l : List Nat), (∀ id ∈ l, unp id = true) → ∃ e', Conc (st.killIds l) a w e' ∧ Fr w e w e' ∧ (∀ id ∈ l, e'.get id = none) ∧ (∀ id m, e'.get id = some m → e.get id = some m) ∧ ∀ id, id ∉ l → e'.get id = e.get id
  | [],_=>⟨e,h,Fr.refl w e,fun id hid=>by simp at hid,fun _ _ hm=>hm,fun _ _=>rfl⟩
  | id :: l,hu=>by
    have hfr:=Fr.drop w e id (hu id (by simp))
    have ht:=turns_kill (w:=w) (e:=e) id hfr (fun j hj=>by simp [Env.drop,hj])
    have h1:=h.shrink id (AV.kill id) (hu id (by simp)) ht (AV.kill_cells id)
    obtain ⟨e',c1,f1,n1,g1,k1⟩:=kill_conc h1 l (fun j hj=>hu j (by simp [hj]))
    refine ⟨e',c1,hfr.trans f1,fun j hj=>?_,fun j m hj=>?_,fun j hj=>?_⟩
    · rcases List.mem_cons.1 hj with rfl | hj
      · cases hg:e'.get j with
        | none=>rfl
        | some m=>have:=g1 j m hg; simp [Env.drop] at this
      · exact n1 j hj
    · have:=g1 j m hj
      simp only [Env.drop] at this
      split at this
      · cases this
      · exact this
    · simp only [List.mem_cons,not_or] at hj
      rw [k1 j hj.2]
      simp [Env.drop,hj.1]
theorem look_some_mem {α : Type} {t : Nat} : ∀ {l : List (Nat × α)}, (look t l).isSome = true ↔ ∃ x, (t, x) ∈ l
  | []=>by simp [look]
  | (k, y) :: r => by
    simp only [look]
    by_cases hk:k=t
    · subst hk; simp
    · rw [if_neg hk,look_some_mem]
      constructor
      · rintro ⟨x,hx⟩; exact ⟨x,by simp [hx]⟩
      · rintro ⟨x,hx⟩
        rcases List.mem_cons.1 hx with h | h
        · cases h; exact absurd rfl hk
        · exact ⟨x,h⟩
theorem look_append {α:Type} (t:Nat):∀ (l l' : List (Nat×α)),look t (l ++ l')=match look t l with | some x=>some x | none=>look t l'
  | [],l'=>rfl
  | (k,y) :: r,l'=>by
    simp only [List.cons_append,look]
    by_cases hk:k=t
    · subst hk; simp
    · simp only [if_neg hk]; exact look_append t r l'
theorem mem_newIds {d id : Nat} : ∀ {l : List (Nat × Obj)}, id ∈ newIds d l ↔ ∃ n, 20000 ≤ n ∧ (look n l).isSome = true ∧ id = atSlot d n
  | []=>by simp [newIds,look]
  | (k, o) :: r => by
    have ih:=mem_newIds (d:=d) (id:=id) (l:=r)
    simp only [newIds]
    constructor
    · intro h
      split at h
      · rename_i hk
        rcases List.mem_cons.1 h with rfl | h
        · exact ⟨k,hk,by simp [look],rfl⟩
        · obtain ⟨n,h1,h2,h3⟩:=ih.1 h
          exact ⟨n,h1,by simp only [look]; split <;> simp_all,h3⟩
      · obtain ⟨n,h1,h2,h3⟩:=ih.1 h
        exact ⟨n,h1,by simp only [look]; split <;> simp_all,h3⟩
    · rintro ⟨n,h1,h2,rfl⟩
      simp only [look] at h2
      split at h2
      · rename_i hk; subst hk; rw [if_pos h1]; simp
      · have:=ih.2 ⟨n,h1,h2,rfl⟩
        split
        · exact List.mem_cons_of_mem _ this
        · exact this
theorem look_back {ps : List (Nat × Nat)} (hps : psOkL ps = true) {d : Nat} (hslot : ∀ n id, look n ps = some id → ¬ (8 * d ≤ id ∧ id < 8 * d + 8)) (f : Obj → Obj) : ∀ {l : List (Nat × Obj)}, (∀ x ∈ l, (look x.1 ps).isSome = true ∨ (20000 ≤ x.1 ∧ x.1 < 20008)) → ∀ id,
    look id (l.map fun x=>(outName ps d x.1,f x.2))=match findOld id ps with | some n=>(look n l).map f | none=>if 8 * d≤id∧id < 8 * d + 8 then (look (20000 + (id - 8 * d)) l).map f else none
  | [],_,id=>by simp only [List.map_nil,look]; split <;> (try split) <;> rfl
  | (k, o) :: r, h, id => by
    have ih:=look_back hps hslot f (l:=r) (fun x hx=>h x (List.mem_cons_of_mem _ hx)) id
    simp only [List.map_cons,ih,look]
    have hk:=h (k,o) (by simp)
    simp only at hk
    cases hf:findOld id ps with
    | some n =>
      have hl:=findOld_look (psOkL_1 hps) hf
      simp only
      by_cases hkn:k=n
      · subst hkn
        rw [if_pos (by simp [outName,hl]),if_pos rfl]; rfl
      · rw [if_neg hkn,if_neg]
        intro ho
        simp only [outName] at ho
        cases hlk:look k ps with
        | some id' =>
          rw [hlk] at ho
          simp only at ho
          subst ho
          rw [look_findOld (psOkL_2 hps) hlk] at hf
          cases hf; exact hkn rfl
        | none =>
          rw [hlk] at ho hk
          simp only [Option.isSome_none,Bool.false_eq_true,false_or] at hk
          simp only [atSlot,hk.1,if_true] at ho
          exact hslot n id hl (by omega)
    | none =>
      simp only
      have hkey:outName ps d k=id↔(8 * d≤id∧id < 8 * d + 8)∧k=20000 + (id - 8 * d):=by
        simp only [outName]
        cases hlk:look k ps with
        | some id' =>
          simp only
          constructor
          · rintro rfl
            rw [look_findOld (psOkL_2 hps) hlk] at hf; cases hf
          · rintro ⟨_,hk2⟩
            have:=psOkL_lt hps hlk; omega
        | none =>
          rw [hlk] at hk
          simp only [Option.isSome_none,Bool.false_eq_true,false_or] at hk
          simp only [atSlot,hk.1,if_true]
          omega
      by_cases hs:8 * d≤id∧id < 8 * d + 8
      · rw [if_pos hs,if_pos hs]
        by_cases hk2:k=20000 + (id - 8 * d)
        · rw [if_pos (hkey.2 ⟨hs,hk2⟩),if_pos hk2]; rfl
        · rw [if_neg (fun h=>hk2 (hkey.1 h).2),if_neg hk2]
      · rw [if_neg hs,if_neg hs,if_neg (fun h=>hs (hkey.1 h).1)]
def Obj.free:Obj→Bool
  | .row _ _ _ els=>els.all fun y=>y.cells.all AV.free
  | .mp _ _ ents=>ents.all fun x=>x.2.free
  | .ext _ _=>false
  | .gone=>true
  | .fix _ _ _ els=>els.all fun y=>y.cells.all AV.free
  | .grid _ _ _ _ rows=>rows.all fun r=>r.all fun y=>y.cells.all AV.free
  | .cus C=>C.fr
theorem Rd.embed {w w' : World} {e e' : Env} {x:AV} {v:Value} (h:Rd w e x v) (hg:∀ id m,x.men id=true→e.get id=some m→∃ m',e'.get id=some m'∧m.same m') (hq:∀ b,e.q b→b < w.heap.size→w'.heap[b]?=w.heap[b]?∧e'.q b):Rd w' e' x v:=by
  have:=h.ren (w':=w') (e':=e') (fun i=>i) hg (.inl hq)
  rwa [AV.ren_id] at this
theorem ObjOk.ren {w w' : World} {e e' : Env} {m : Mta} {o : Obj} (ρ : Nat → Nat) (h : ObjOk w e m o) (hg : ∀ id m, o.men id = true → e.get id = some m → ∃ m', e'.get (ρ id) = some m' ∧ m.same m')
    (hq:(∀ b,e.q b→b < w.heap.size→w'.heap[b]?=w.heap[b]?∧e'.q b)∨o.free=true) (hsz:w.heap.size≤w'.heap.size) (hos:w'.os=w.os∧w'.tape=w.tape∧w'.output=w.output)
    (hb:∀ b,m.has b→w'.heap[b]?=w.heap[b]?):ObjOk w' e' m (o.ren ρ):=by
  cases o with
  | grid ty sz oty n rows=>exact ⟨gridC_stab _ _ _ _ _ _ _ _ _ _ _ (CusOk.holds h) rfl rfl rfl rfl rfl hb (hq.imp (fun hq b h1 h2=>hq b h1 h2.lt) id),CusOk.ngone h,fun b hb'=>Nat.lt_of_lt_of_le (CusOk.lt h b hb') hsz,gridC_stab _ _ _ _ _⟩
  | cus C=>exact ⟨CusOk.stable h _ _ _ _ _ _ (CusOk.holds h) rfl rfl rfl rfl rfl hb (hq.imp (fun hq b h1 h2=>hq b h1 h2.lt) id),CusOk.ngone h,fun b hb'=>Nat.lt_of_lt_of_le (CusOk.lt h b hb') hsz,CusOk.stable h⟩
  | ext l J =>
    rcases hq with hq | hq
    · exact ExtOk.go h hsz hos hb fun b h1 h2=>hq b h1 h2.lt
    · simp [Obj.free] at hq
  | gone=>exact h
  | fix ty sz cap els =>
    refine ⟨?_,h.2⟩
    have h:=h.1
    refine ⟨h.hsz,h.len,h.cap,h.cells,h.only, ?_⟩
    have hk:=h.blk
    cases hmb:m.blk with
    | none=>simpa [hmb] using hk
    | some b =>
      simp only [hmb] at hk ⊢
      obtain ⟨cur,h1,h2,h3⟩:=hk
      refine ⟨cur,by rw [hb b (.inl hmb)]; exact h1,h2,fun i x hx j y hy=>?_⟩
      obtain ⟨v,g1,g2,g3⟩:=h3 i x hx j y hy
      refine ⟨v,g1,g2, ?_⟩
      simp only [CellRd,if_true] at g3 ⊢
      rcases hq with hq | hq
      · exact g3.evolve hq
      · simp only [Obj.free,List.all_eq_true] at hq
        exact g3.free (hq x (List.mem_of_getElem? hx) y (List.mem_of_getElem? hy))
  | mp d sh ents =>
    cases d with
    | true =>
      obtain ⟨b,es,clock,h1,h2,h3,h3',h4⟩:=h.blk
      refine ⟨h.only,h.good,b,es,clock,h1,by rw [hb b (.inl h1)]; exact h2,h3,h3',fun i k x hx=>?_⟩
      obtain ⟨en,g1,g2,g3⟩:=h4 i k x hx
      refine ⟨en,g1,g2, ?_⟩
      simp only [CellRd,if_true] at g3 ⊢
      rcases hq with hq | hq
      · exact g3.evolve hq
      · simp only [Obj.free,List.all_eq_true] at hq
        exact g3.free (hq _ (List.mem_of_getElem? hx))
    | false =>
      obtain ⟨b,es,clock,h1,h2,h3,h3',h4⟩:=h.blk
      refine ⟨h.only,⟨fun x hx=>?_, ?_⟩,b,es,clock,h1,by rw [hb b (.inl h1)]; exact h2,by simpa using h3,h3',fun i k x hx=>?_⟩
      · obtain ⟨y,hy,rfl⟩:=List.mem_map.1 hx
        exact h.good.1 y hy
      · rw [List.map_map]; exact h.good.2
      · rw [List.getElem?_map] at hx
        obtain ⟨x0,hx0,he⟩:=Option.map_eq_some_iff.1 hx
        cases he
        obtain ⟨en,g1,g2,g3⟩:=h4 i x0.1 x0.2 hx0
        refine ⟨en,g1,g2, ?_⟩
        simp only [CellRd,Bool.false_eq_true,if_false] at g3 ⊢
        have hmem:=List.mem_of_getElem? hx0
        refine g3.ren ρ (fun id m hm=>hg id m (by simp only [Obj.men]; exact AV.menL_of (List.mem_map.2 ⟨_,hmem,rfl⟩) hm)) ?_
        rcases hq with hq | hq
        · exact .inl hq
        · simp only [Obj.free,List.all_eq_true] at hq
          exact .inr (hq _ hmem)
  | row d ty sz els =>
    have hmenl:d=false→∀ x∈els,∀ y∈x.cells,∀ id,y.men id=true→(Obj.row d ty sz els).men id=true:=by
      intro hd x hx y hy id hm
      subst hd
      simp only [Obj.men]
      cases hxm:x.men id with
      | true=>exact AV.menL_of hx hxm
      | false=>rw [menL_cells hxm y hy] at hm; cases hm
    have hfree:∀ x∈els,∀ y∈x.cells,((∀ b,e.q b→b < w.heap.size→w'.heap[b]?=w.heap[b]?∧e'.q b)∨y.free=true):=by
      intro x hx y hy
      rcases hq with hq | hq
      · exact .inl hq
      · simp only [Obj.free,List.all_eq_true] at hq
        exact .inr (hq x hx y hy)
    cases d with
    | true =>
      refine ⟨h.hsz,h.len,h.cap,h.cells,h.only, ?_⟩
      have hk:=h.blk
      cases hmb:m.blk with
      | none=>simpa [hmb] using hk
      | some b =>
        simp only [hmb] at hk ⊢
        obtain ⟨cur,h1,h2,h3⟩:=hk
        refine ⟨cur,by rw [hb b (.inl hmb)]; exact h1,h2,fun i x hx j y hy=>?_⟩
        obtain ⟨v,g1,g2,g3⟩:=h3 i x hx j y hy
        refine ⟨v,g1,g2, ?_⟩
        simp only [CellRd,if_true] at g3 ⊢
        rcases hfree x (List.mem_of_getElem? hx) y (List.mem_of_getElem? hy) with hq | hq
        · exact g3.evolve hq
        · exact g3.free hq
    | false =>
      refine ⟨h.hsz,by simpa using h.len,h.cap,fun x hx=>?_,h.only, ?_⟩
      · obtain ⟨y,hy,rfl⟩:=List.mem_map.1 hx
        rw [ren_mapCells,List.length_map]; exact h.cells y hy
      · have hk:=h.blk
        cases hmb:m.blk with
        | none=>simpa [hmb] using hk
        | some b =>
          simp only [hmb] at hk ⊢
          obtain ⟨cur,h1,h2,h3⟩:=hk
          refine ⟨cur,by rw [hb b (.inl hmb)]; exact h1,h2,fun i x hx j y hy=>?_⟩
          rw [List.getElem?_map] at hx
          obtain ⟨x0,hx0,rfl⟩:=Option.map_eq_some_iff.1 hx
          rw [ren_mapCells,List.getElem?_map] at hy
          obtain ⟨y0,hy0,rfl⟩:=Option.map_eq_some_iff.1 hy
          obtain ⟨v,g1,g2,g3⟩:=h3 i x0 hx0 j y0 hy0
          refine ⟨v,g1,g2, ?_⟩
          simp only [CellRd,Bool.false_eq_true,if_false] at g3 ⊢
          exact g3.ren ρ (fun id m hm=>hg id m (hmenl rfl x0 (List.mem_of_getElem? hx0) y0 (List.mem_of_getElem? hy0) id hm)) (hfree x0 (List.mem_of_getElem? hx0) y0 (List.mem_of_getElem? hy0))
def freeNews (b:Bool) (r:AV) (objs:List (Nat×Obj)):Bool:=!b || (r.free && objs.all fun x=>x.2.free)
theorem mp_named {l:List Nat} {sh:Value} {ents:List (Value×AV)} {j:Nat} (hn:Obj.named l (.mp false sh ents)=true) (hj:Obj.men j (.mp false sh ents)=true):j∈l:=by
  simp only [Obj.named,List.all_eq_true] at hn
  simp only [Obj.men] at hj
  have:∀ ys:List AV,(∀ x∈ys,x.named l=true)→AV.menL j ys=true→j∈l:=by
    intro ys
    induction ys with
    | nil=>intro _ hm; simp [AV.menL] at hm
    | cons x xs ih =>
      intro hall hm
      simp only [AV.menL,Bool.or_eq_true] at hm
      rcases hm with hm | hm
      · exact AV.named_men x (hall x (by simp)) hm
      · exact ih (fun y hy=>hall y (by simp [hy])) hm
  exact this (ents.map (·.2)) (fun x hx=>by obtain ⟨y,hy,rfl⟩:=List.mem_map.1 hx; exact hn y hy) hj
theorem men_ren_id (o:Obj):o.ren (fun i=>i)=o:=by
  cases o with
  | row d ty sz els =>
    cases d with
    | true=>rfl
    | false =>
      simp only [Obj.ren,Obj.row.injEq,true_and]
      conv=>rhs; rw [← List.map_id els]
      refine List.map_congr_left fun x _=>?_
      cases x <;> simp only [AV.mapCells,AV.ren_id,id_eq,AV.agg.injEq]
      rename_i l _
      conv=>rhs; rw [← List.map_id l]
      exact List.map_congr_left fun y _=>AV.ren_id y
  | mp d sh ents =>
    cases d with
    | true=>rfl
    | false =>
      simp only [Obj.ren,Obj.mp.injEq,true_and,AV.ren_id]
      exact List.map_id ents
  | _=>rfl
theorem killIds_dom:∀ {l:List Nat} {st:St} {j:Nat} {o:Obj},look j (st.killIds l).objs=some o→(look j st.objs).isSome=true
  | [],st,j,o,h=>by rw [show (st.killIds []).objs=st.objs from rfl] at h; rw [h]; rfl
  | id :: r,st,j,o,h=>by
    have h2:=killIds_dom (l:=r) (st:=st.turn id (AV.kill id)) h
    simp only [St.turn,look_del] at h2
    split at h2
    · cases h2
    · rw [look_mapV,Option.isSome_map] at h2; exact h2
theorem adopt_concL {st:St} {a:Act} {w w' : World} {e ec:Env} (h:Conc st a w e) (b:Bool) {ps:List (Nat×Nat)} (hps:psOkL ps=true) {d:Nat} (hd:d < 1250) {objs:List (Nat×Obj)} (hback:backOk ps d objs=true)
    (hgo:(∀ n id,look n ps=some id→n < 15000∨n=19999)∨((∀ n id,look n ps=some id→n < 15000∨n=19999∨∀ j o,look j (st.killIds (newIds d objs)).objs=some o→findOld j ps=none→o.men id=false)∧looseOk ps (st.killIds (newIds d objs)).tmps=true))
    (hs:Sim w' ec objs) (hf:Fr w (e.view ps b) w' ec) {r:AV} {v:Value} (hr:Rd w' ec r v) (hfree:freeNews b r objs=true) :
    ∃ e3,Conc (st.adopt ps d objs) a w' e3∧Fr w e w' e3∧Rd w' e3 (r.ren (outName ps d)) v:=by
  simp only [backOk,Bool.and_eq_true,List.all_eq_true,Bool.or_eq_true,decide_eq_true_eq,Bool.not_eq_true',Bool.and_eq_false_iff,decide_eq_false_iff_not] at hback
  obtain ⟨hkeys,hslot0⟩:=hback
  have hslot:∀ n id,look n ps=some id→¬ (8 * d≤id∧id < 8 * d + 8):=fun n id hl=>by have:=hslot0 _ (look_mem hl); simp only at this; omega
  obtain ⟨e1,c1,f1,n1,g1,k1⟩:=kill_conc h (newIds d objs) (fun id hid=>by
    obtain ⟨n,h1,h2,rfl⟩:=mem_newIds.1 hid
    obtain ⟨x,hx⟩:=look_some_mem.1 h2
    have:=hkeys _ hx
    simp only [atSlot,h1,if_true,unp,Bool.or_eq_true,decide_eq_true_eq]
    rcases this with h3 | h3
    · obtain ⟨id,hl⟩:=Option.isSome_iff_exists.1 h3
      have:=psOkL_lt hps hl; simp only at this; omega
    · simp only at h3; omega)
  have hnewslot:∀ id∈newIds d objs,8 * d≤id∧id < 8 * d + 8:=by
    intro id hid
    obtain ⟨n,h1,h2,rfl⟩:=mem_newIds.1 hid
    obtain ⟨x,hx⟩:=look_some_mem.1 h2
    have:=hkeys _ hx
    simp only [atSlot,h1,if_true]
    rcases this with h3 | h3
    · obtain ⟨id,hl⟩:=Option.isSome_iff_exists.1 h3
      have:=psOkL_lt hps hl; simp only at this; omega
    · simp only at h3; omega
  have hlive:∀ n m,ec.get n=some m→(look n objs).isSome=true:=fun n m hm=>by have:=hs.dom n; rw [hm] at this; exact this.symm
  have hkind:∀ n m,ec.get n=some m→(∃ id,look n ps=some id)∨(look n ps=none∧20000≤n∧n < 20008):=by
    intro n m hm
    obtain ⟨o,ho⟩:=look_some_mem.1 (hlive n m hm)
    have:=hkeys _ ho
    simp only at this
    cases hl:look n ps with
    | some id=>exact .inl ⟨id,rfl⟩
    | none=>rw [hl] at this; simp at this; exact .inr ⟨rfl,this⟩
  have hpass1:∀ n id,look n ps=some id→e1.get id=e.get id:=fun n id hl=>k1 id fun hm=>hslot n id hl (hnewslot id hm)
  have hpass:∀ n id m,look n ps=some id→(n < 15000∨n=19999)→e.get id=some m→∃ m',ec.get n=some m'∧m.same m':=by
    intro n id m hl hgn hm
    have hev:(e.view ps b).get n=some m:=by show (look n ps).bind e.get=_; rw [hl]; exact hm
    rcases psOkL_3 hps hl with h1 | h1 | h1
    · exact ⟨m,by rw [hf.pin n h1.1 h1.2]; exact hev,m.same_refl⟩
    · obtain ⟨rfl,rfl⟩:=h1
      exact hf.pins.ext m hev
    · omega
  let e3 : Env := { get := fun id => match findOld id ps with
      | some n=>ec.get n
      | none=>if 8 * d≤id∧id < 8 * d + 8∧(ec.get (20000 + (id - 8 * d))).isSome then ec.get (20000 + (id - 8 * d)) else e1.get id,pr:=e1.pr,bs:=e1.bs }
  have hget:∀ id,e3.get id=match findOld id ps with
      | some n=>ec.get n
      | none=>if 8 * d≤id∧id < 8 * d + 8∧(ec.get (20000 + (id - 8 * d))).isSome then ec.get (20000 + (id - 8 * d)) else e1.get id:=fun _=>rfl
  have hnew:∀ n m,ec.get n=some m→e3.get (outName ps d n)=some m:=by
    intro n m hm
    rw [hget]
    rcases hkind n m hm with ⟨id,hl⟩ | ⟨hl,h1,h2⟩
    · rw [show outName ps d n=id from by simp [outName,hl],look_findOld (psOkL_2 hps) hl]; exact hm
    · rw [show outName ps d n=8 * d + (n - 20000) from by simp [outName,hl,atSlot,h1]]
      cases hfo:findOld (8 * d + (n - 20000)) ps with
      | some n'=>exact absurd ⟨by omega,by omega⟩ (hslot n' _ (findOld_look (psOkL_1 hps) hfo))
      | none =>
        have h3:20000 + (8 * d + (n - 20000) - 8 * d)=n:=by omega
        simp only
        rw [h3,if_pos ⟨by omega,by omega,by rw [hm]; rfl⟩,hm]
  have hold:∀ id m,(∀ n,look n ps=some id→n < 15000∨n=19999)→e1.get id=some m→∃ m',e3.get id=some m'∧m.same m':=by
    intro id m hgn hm
    rw [hget]
    cases hfo:findOld id ps with
    | some n=>exact hpass n id m (findOld_look (psOkL_1 hps) hfo) (hgn n (findOld_look (psOkL_1 hps) hfo)) (g1 id m hm)
    | none =>
      simp only
      rw [if_neg]
      · exact ⟨m,hm,m.same_refl⟩
      · rintro ⟨h1,h2,h3⟩
        obtain ⟨m',hm'⟩:=Option.isSome_iff_exists.1 h3
        have:=n1 id (mem_newIds.2 ⟨_,by omega,hlive _ m' hm',by simp [atSlot]; omega⟩)
        rw [hm] at this; cases this
  have hcases:∀ id m,e3.get id=some m→(∃ n,look n ps=some id∧ec.get n=some m)∨(∃ n,look n ps=none∧20000≤n∧id=8 * d + (n - 20000)∧n < 20008∧ec.get n=some m)∨(findOld id ps=none∧e1.get id=some m):=by
    intro id m hm
    rw [hget] at hm
    cases hfo:findOld id ps with
    | some n=>rw [hfo] at hm; exact .inl ⟨n,findOld_look (psOkL_1 hps) hfo,hm⟩
    | none =>
      rw [hfo] at hm
      simp only at hm
      split at hm
      · rename_i hc
        rcases hkind _ m hm with ⟨id',hl⟩ | ⟨hl,h1,h2⟩
        · have:=psOkL_lt hps hl; omega
        · exact .inr (.inl ⟨_,hl,h1,by omega,h2,hm⟩)
      · exact .inr (.inr ⟨rfl,hm⟩)
  have hpr1:e1.pr=e.pr:=f1.pr
  have hO1:∀ x,ec.owned x→x < w.heap.size→e.subOwn ps x:=fun x hx hlt=>hf.own x hx hlt
  have hO3:∀ x,e3.owned x→ec.owned x∨∃ id m,e1.get id=some m∧m.has x∧findOld id ps=none:=by
    rintro x ⟨id,m,hm,hb⟩
    rcases hcases id m hm with ⟨n,_,h1⟩ | ⟨n,_,_,_,_,h1⟩ | ⟨h1,h2⟩
    · exact .inl ⟨n,m,h1,hb⟩
    · exact .inl ⟨n,m,h1,hb⟩
    · exact .inr ⟨id,m,h2,hb,h1⟩
  have hsub:∀ x,e.subOwn ps x→∃ n id m,look n ps=some id∧e.get id=some m∧m.has x:=by
    rintro x ⟨n,m,h1,h2⟩
    cases hl:look n ps with
    | none=>rw [hl] at h1; cases h1
    | some id=>rw [hl] at h1; exact ⟨n,id,m,hl,h1,h2⟩
  have hS1:∀ x,e.subOwn ps x→e1.owned x:=fun x hx=>by
    obtain ⟨n,id,m,h1,h2,h3⟩:=hsub x hx
    exact ⟨id,m,by rw [hpass1 n id h1]; exact h2,h3⟩
  have hlt1:∀ x,e1.owned x→x < w.heap.size:=fun x ⟨id,m,hm,hb⟩=>c1.sim.blk_lt hm hb
  have hkeep:∀ x,x < w.heap.size→¬ e.subOwn ps x→w'.heap[x]?=w.heap[x]?:=fun x hx hn=>hf.blk x hx hn
  have hnotpassed:∀ x id m,e1.get id=some m→m.has x→findOld id ps=none→¬ e.subOwn ps x:=by
    intro x id m hm hb hfo hx
    obtain ⟨n,id',m',h1,h2,h3⟩:=hsub x hx
    have:=h.sim.inj id id' m m' x (g1 id m hm) h2 hb h3
    subst this
    rw [look_findOld (psOkL_2 hps) h1] at hfo; cases hfo
  have hfr1:Fr w e1 w' e3:=⟨hf.os,hf.tape,hf.output,hf.size,fun x hx hn=>hkeep x hx (fun ho=>hn (hS1 x ho)),fun x ho hx=>by
      rcases hO3 x ho with h1 | ⟨id,m,h1,h2,_⟩
      · exact hS1 x (hO1 x h1 hx)
      · exact ⟨id,m,h1,h2⟩,rfl,⟨fun id h1 h2=>by
      rw [hget]
      cases hfo:findOld id ps with
      | some n =>
        have hl:=findOld_look (psOkL_1 hps) hfo
        rw [hpass1 n id hl]
        rcases psOkL_3 hps hl with h3 | h3 | h3
        · simp only
          rw [hf.pin n h3.1 h3.2]
          show (look n ps).bind e.get=_
          rw [hl]; rfl
        · omega
        · have h4:=h3.2.2
          simp only [unp,Bool.or_eq_true,Bool.and_eq_true,decide_eq_true_eq] at h4
          omega
      | none=>simp only; rw [if_neg (by omega)],fun m hm=>hold 19999 m (fun n hl=>by
        rcases psOkL_3 hps hl with h3 | h3 | h3
        · exact .inl h3.2
        · exact .inr h3.1
        · have h4:=h3.2.2
          simp [unp] at h4) hm⟩⟩
  have hq1:∀ x,e1.q x→x < w.heap.size→w'.heap[x]?=w.heap[x]?∧e3.q x:=fun x hq hx=>⟨hkeep x hx (fun ho=>hq.2 (hS1 x ho)),hq.1,fun ho=>by
    rcases hO3 x ho with h1 | ⟨id,m,h1,h2,_⟩
    · exact hq.2 (hS1 x (hO1 x h1 hx))
    · exact hq.2 ⟨id,m,h1,h2⟩⟩
  have hqq:b=false→∀ x,ec.q x→e3.q x:=by
    intro hb x hx
    subst hb
    have h1:e.q x∨e.subOwn ps x:=by have:=hx.1; rw [hf.pr] at this; simpa [Env.view] using this
    refine ⟨?_,fun ho=>?_⟩
    · show e1.pr x
      rw [hpr1]
      rcases h1 with h1 | h1
      · exact h1.1
      · exact h.sim.prok x (subOwn_owned h1)
    · rcases hO3 x ho with h2 | ⟨id,m,h2,h3,h4⟩
      · exact hx.2 h2
      · rcases h1 with h1 | h1
        · exact h1.2 ⟨id,m,g1 id m h2,h3⟩
        · exact hnotpassed x id m h2 h3 h4 h1
  have hqo:(∀ x,ec.q x→x < w'.heap.size→w'.heap[x]?=w'.heap[x]?∧e3.q x)∨b=true:=by
    cases hb:b with
    | false=>exact .inl fun x hx _=>⟨rfl,hqq hb x hx⟩
    | true=>exact .inr rfl
  have hmem:∀ id,id∈ps.map (·.2)↔∃ n,findOld id ps=some n:=fun id=>⟨findOld_mem,fun ⟨n,hn⟩=>List.mem_map.2 ⟨(n,id),look_mem (findOld_look (psOkL_1 hps) hn),rfl⟩⟩
  have hkeys' : ∀ x∈objs,(look x.1 ps).isSome=true∨(20000≤x.1∧x.1 < 20008):=hkeys
  have hlook:∀ id,look id (st.adopt ps d objs).objs=match findOld id ps with
      | some n=>(look n objs).map (Obj.ren (outName ps d))
      | none=>match (if 8 * d≤id∧id < 8 * d + 8 then (look (20000 + (id - 8 * d)) objs).map (Obj.ren (outName ps d)) else none) with
        | some o=>some o
        | none=>look id (st.killIds (newIds d objs)).objs:=by
    intro id
    show look id ((objs.map fun x=>(outName ps d x.1,x.2.ren (outName ps d))) ++ delAll (ps.map (·.2)) (st.killIds (newIds d objs)).objs)=_
    rw [look_append,look_back hps hslot _ hkeys',look_delAll]
    cases hfo:findOld id ps with
    | some n =>
      have:id∈ps.map (·.2):=(hmem id).2 ⟨n,hfo⟩
      simp only
      rw [if_pos this]
      cases look n objs <;> rfl
    | none =>
      have:id ∉ ps.map (·.2):=fun hm=>by obtain ⟨n,hn⟩:=(hmem id).1 hm; rw [hfo] at hn; cases hn
      simp only
      rw [if_neg this]
      generalize (if 8 * d≤id∧id < 8 * d + 8 then (look (20000 + (id - 8 * d)) objs).map (Obj.ren (outName ps d)) else none)=q
      cases q <;> rfl
  refine ⟨e3,⟨⟨fun id=>?_,fun i j mi mj x hi hj hbi hbj=>?_,fun id o m ho hm=>?_,fun x hx=>?_,fun x hx=>?_⟩,c1.defers.fr hfr1,c1.size,fun t x hx=>?_⟩,f1.trans hfr1, ?_⟩
  · rw [hlook,hget]
    cases hfo:findOld id ps with
    | some n=>simp only [Option.isSome_map]; exact hs.dom n
    | none =>
      simp only
      by_cases hc:8 * d≤id∧id < 8 * d + 8
      · rw [if_pos hc]
        have hdm:=hs.dom (20000 + (id - 8 * d))
        cases hl:look (20000 + (id - 8 * d)) objs with
        | some o =>
          rw [hl] at hdm
          rw [if_pos ⟨hc.1,hc.2,hdm⟩]; simpa using hdm
        | none =>
          rw [hl] at hdm
          rw [if_neg (by rw [hdm]; simp)]; exact c1.sim.dom id
      · rw [if_neg hc,if_neg (fun h=>hc ⟨h.1,h.2.1⟩)]; exact c1.sim.dom id
  · have mix:∀ (n id:Nat) (m m' : Mta),ec.get n=some m→m.has x→e1.get id=some m'→m'.has x→findOld id ps=none→False:=by
      intro n id m m' h1 h2 h3 h4 h5
      have hx:=hlt1 x ⟨id,m',h3,h4⟩
      exact hnotpassed x id m' h3 h4 h5 (hO1 x ⟨n,m,h1,h2⟩ hx)
    rcases hcases i mi hi with ⟨n,p1,p2⟩ | ⟨n,p1,p2,p3,p4,p5⟩ | ⟨p1,p2⟩ <;> rcases hcases j mj hj with ⟨n',q1,q2⟩ | ⟨n',q1,q2,q3,q4,q5⟩ | ⟨q1,q2⟩
    · have:=hs.inj n n' mi mj x p2 q2 hbi hbj
      subst this; rw [p1] at q1; cases q1; rfl
    · have:=hs.inj n n' mi mj x p2 q5 hbi hbj
      subst this; rw [p1] at q1; cases q1
    · exact (mix n j mi mj p2 hbi q2 hbj q1).elim
    · have:=hs.inj n n' mi mj x p5 q2 hbi hbj
      subst this; rw [p1] at q1; cases q1
    · have:=hs.inj n n' mi mj x p5 q5 hbi hbj
      subst this; rw [p3,q3]
    · exact (mix n j mi mj p5 hbi q2 hbj q1).elim
    · exact (mix n' i mj mi q2 hbj p2 hbi p1).elim
    · exact (mix n' i mj mi q5 hbj p2 hbi p1).elim
    · exact c1.sim.inj i j mi mj x p2 q2 hbi hbj
  · rw [hlook] at ho
    have fromBack:∀ n o2,look n objs=some o2→ec.get n=some m→o2.ren (outName ps d)=o→ObjOk w' e3 m o:=by
      rintro n o2 h1 h2 rfl
      refine (hs.obj n o2 m h1 h2).ren _ (fun id m hm hg=>⟨m,hnew id m hg,m.same_refl⟩) ?_ (Nat.le_refl _) ⟨rfl,rfl,rfl⟩ (fun _ _=>rfl)
      rcases hqo with hq | hb
      · exact .inl hq
      · subst hb
        simp only [freeNews,Bool.not_true,Bool.false_or,Bool.and_eq_true,List.all_eq_true] at hfree
        exact .inr (hfree.2 _ (look_mem h1))
    have fromOld:look id (st.killIds (newIds d objs)).objs=some o→findOld id ps=none→ObjOk w' e3 m o:=by
      intro h1 h2
      obtain ⟨m',hm'⟩:=Option.isSome_iff_exists.1 (by rw [c1.sim.dom,h1]; rfl:(e1.get id).isSome=true)
      have hmm:m=m':=by
        rw [hget,h2] at hm
        simp only at hm
        split at hm
        · rename_i hc
          have:=n1 id (mem_newIds.2 ⟨20000 + (id - 8 * d),by omega,hlive _ m hm,by simp [atSlot]; omega⟩)
          rw [hm'] at this; cases this
        · rw [hm'] at hm; cases hm; rfl
      subst hmm
      have hgo' : ∀ id2,o.men id2=true→∀ n,look n ps=some id2→n < 15000∨n=19999:=fun id2 hmen n hn=>by
        rcases hgo with hgo | ⟨hgo,_⟩
        · exact hgo n id2 hn
        · rcases hgo n id2 hn with h5 | h5 | h5
          · exact .inl h5
          · exact .inr h5
          · have:=h5 id o h1 h2
            rw [this] at hmen; cases hmen
      have:=(c1.sim.obj id o m h1 hm').ren (w':=w') (e':=e3) (fun i=>i) (fun id m hmen hg=>hold id m (fun n=>hgo' id hmen n) hg) (.inl hq1) hf.size ⟨hf.os,hf.tape,hf.output⟩ (fun x hx=>hkeep x (c1.sim.blk_lt hm' hx) (hnotpassed x id m hm' hx h2))
      rwa [men_ren_id] at this
    cases hfo:findOld id ps with
    | some n =>
      rw [hfo] at ho
      simp only at ho
      obtain ⟨o2,h1,h2⟩:=Option.map_eq_some_iff.1 ho
      refine fromBack n o2 h1 ?_ h2
      rw [hget,hfo] at hm; exact hm
    | none =>
      rw [hfo] at ho
      simp only at ho
      by_cases hc:8 * d≤id∧id < 8 * d + 8
      · rw [if_pos hc] at ho
        cases hl:look (20000 + (id - 8 * d)) objs with
        | none=>rw [hl] at ho; exact fromOld ho hfo
        | some o2 =>
          rw [hl] at ho
          cases ho
          refine fromBack _ o2 hl ?_ rfl
          rw [hget,hfo] at hm
          simp only at hm
          rw [if_pos ⟨hc.1,hc.2,by rw [hs.dom,hl]; rfl⟩] at hm; exact hm
      · rw [if_neg hc] at ho; exact fromOld ho hfo
  · show e1.pr x
    rcases hO3 x hx with h1 | ⟨id,m,h1,h2,_⟩
    · have:=hs.prok x h1
      rw [hf.pr] at this
      rw [hpr1]
      rcases this with h2 | h2
      · cases b
        · exact h2.1
        · exact h2
      · exact h.sim.prok x (subOwn_owned h2)
    · exact c1.sim.prok x ⟨id,m,h1,h2⟩
  · exact c1.sim.new x (Nat.le_trans hf.size hx)
  · obtain ⟨v,hv,hrd⟩:=c1.tmp t x hx
    refine ⟨v,hv,hrd.embed (fun id m hmn hg=>hold id m (fun n hn=>?_) hg) hq1⟩
    rcases hgo with hgo | ⟨_,hgo⟩
    · exact hgo n id hn
    · have h5:=List.all_eq_true.1 hgo _ (look_mem hn)
      simp only [Bool.or_eq_true,decide_eq_true_eq,beq_iff_eq,List.all_eq_true] at h5
      rcases h5 with h5 | h5
      · exact h5
      · have:=h5 _ (look_mem hx)
        simp [hmn] at this
  · refine hr.ren (outName ps d) (fun n m _ hg=>⟨m,hnew n m hg,m.same_refl⟩) ?_
    rcases hqo with hq | hb
    · exact .inl hq
    · subst hb
      simp only [freeNews,Bool.not_true,Bool.false_or,Bool.and_eq_true] at hfree
      exact .inr hfree.1
theorem adopt_conc {st:St} {a:Act} {w w' : World} {e ec:Env} (h:Conc st a w e) (b:Bool) {ps:List (Nat×Nat)} (hps:psOk ps=true) {d:Nat} (hd:d < 1250) {objs:List (Nat×Obj)} (hback:backOk ps d objs=true)
    (hs:Sim w' ec objs) (hf:Fr w (e.view ps b) w' ec) {r:AV} {v:Value} (hr:Rd w' ec r v) (hfree:freeNews b r objs=true) :
    ∃ e3,Conc (st.adopt ps d objs) a w' e3∧Fr w e w' e3∧Rd w' e3 (r.ren (outName ps d)) v:=
  adopt_concL h b (psOk_l hps) hd hback (.inl fun n id hl=>by rcases psOk_3 hps hl with h1 | h1 <;> omega) hs hf hr hfree
theorem objsFor_get {st : St} {all : List (Nat × Nat)} : ∀ {l : List (Nat × Nat)} {os : List (Nat × Obj)}, st.objsFor all l = some os → ∀ n, look n os = ((look n l).bind fun id => look id st.objs).map (Obj.ren (expName all)) ∧ ∀ id o, look n l = some id → look id st.objs = some o → o.named (all.map (·.2)) = true
  | [],os,h,n=>by cases h; exact ⟨rfl,fun id o hl=>by cases hl⟩
  | (k, j) :: r, os, h, n => by
    simp only [St.objsFor] at h
    split at h
    · rename_i o os' h1 h2
      split at h
      · rename_i hn
        cases h
        obtain ⟨ih1,ih2⟩:=objsFor_get h2 n
        simp only [look]
        by_cases hk:k=n
        · rw [if_pos hk,if_pos hk]
          refine ⟨by simp [h1],fun id o' he ho=>?_⟩
          cases he; rw [h1] at ho; cases ho; exact hn
        · rw [if_neg hk,if_neg hk]; exact ⟨ih1,ih2⟩
      · cases h
    · cases h
def SnapRd (st:St) (ps:List (Nat×Nat)) (xs ys:List AV) (b:Bool):Prop:=∀ a w e,View st a w e→(∀ b,e.owned b→e.pr b)→(∀ i j m m' b,e.get i=some m→e.get j=some m'→m.has b→m'.has b→i=j) →
  ys.length=xs.length∧∀ (i:Nat) (x y:AV) (v:Value),xs[i]?=some x→ys[i]?=some y→Rd w e x v→Rd w (e.view ps b) y v
def movOk (ps:List (Nat×Nat)) (d:Nat) (objs:List (Nat×Obj)) (st:St):Prop:=
  (∀ n id,look n ps=some id→n < 15000∨n=19999)∨((∀ n id,look n ps=some id→n < 15000∨n=19999∨∀ j o,look j (st.killIds (newIds d objs)).objs=some o→findOld j ps=none→o.men id=false)∧looseOk ps (st.killIds (newIds d objs)).tmps=true)
theorem movOk_of {ps:List (Nat×Nat)} (hps:psOk ps=true) {d:Nat} {objs:List (Nat×Obj)} {st:St}:movOk ps d objs st:=.inl fun n id hl=>by rcases psOk_3 hps hl with h1 | h1 <;> omega
def movB (ps:List (Nat×Nat)) (d:Nat) (objs:List (Nat×Obj)) (st:St):Bool:=
  (ps.all fun x=>decide (x.1 < 15000) || x.1 == 19999 || (st.killIds (newIds d objs)).objs.all fun y=>(findOld y.1 ps).isSome || !(y.2.men x.2)) && looseOk ps (st.killIds (newIds d objs)).tmps
theorem movOk_b {ps:List (Nat×Nat)} {d:Nat} {objs:List (Nat×Obj)} {st:St} (h:movB ps d objs st=true):movOk ps d objs st:=by
  unfold movB at h
  rw [Bool.and_eq_true,List.all_eq_true] at h
  refine .inr ⟨fun n id hl=>?_,h.2⟩
  have:=h.1 _ (look_mem hl)
  simp only [Bool.or_eq_true,decide_eq_true_eq,beq_iff_eq,List.all_eq_true] at this
  rcases this with (h1 | h1) | h1
  · exact .inl h1
  · exact .inr (.inl h1)
  · refine .inr (.inr fun j o ho hf=>?_)
    have:=h1 _ (look_mem ho)
    rw [hf] at this
    simpa using this
def St.mutes (st:St):List Nat→St
  | []=>st
  | id :: r=>St.mutes { st with tmps:=mapV (AV.mapTop (AV.kill id)) st.tmps } r
theorem Conc.mutes {a:Act} {w:World} {e:Env}:∀ {ids:List Nat} {st:St},Conc st a w e→Conc (st.mutes ids) a w e
  | [],st,h=>h
  | id :: r,st,h=>by
    refine Conc.mutes (ids:=r) ⟨h.sim,h.defers,h.size,fun t x hx=>?_⟩
    simp only [look_mapV] at hx
    obtain ⟨x0,hx0,rfl⟩:=Option.map_eq_some_iff.1 hx
    obtain ⟨v,hv,hr⟩:=h.tmp t x0 hx0
    exact ⟨v,hv,(turns_kill id (Fr.refl w e) (fun _ _=>rfl)).top _ _ hr⟩
theorem call_core' {o : Oper} {f : Operand} {args : Array Operand} {tys : Array TypeId} (ho : o.op = .call { callee := .value f, args, argTypes := tys }) {st S : St} {g : FuncId} {caps : List AV} (hf : st.callee f = some (g, caps)) {ps : List (Nat × Nat)} (hps : psOkL ps = true)
    {ys:List AV} {b:Bool} (hsn:SnapRd st ps (st.bound f ++ args.toList.map st.ev ++ caps) ys b) {os:List (Nat×Obj)} (hos:S.objsFor ps ps=some os) {R:AV→List (Nat×Obj)→Prop} (hc:ACalls P g ys os R) {d:Nat} (hd2:d < 1250)
    (hK:∀ r objs,R r objs→backOk ps d objs=true∧freeNews b r objs=true) (hmv:∀ r objs,R r objs→movOk ps d objs S) {rd:Option Nat} {a:Act} {w:World} {e:Env} (hv:View st a w e) (h:Conc S a w e) {next:Act→World→Prop} {Q:Exit→Act→World→Prop}
    (hn:∀ r objs v w' e',R r objs→Conc (S.adopt ps d objs) a w' e'→Fr w e w' e'→Rd w' e' (r.ren (outName ps d)) v→next (a.put o.dst v) w'):o.wpIn (FR rd) 0 P a w next Q:=by
  obtain ⟨us,vs,hev,hus,hur,hvs,hvr⟩:=callee_rd' hv hf
  refine upon_call ho hev hc.able ?_
  obtain ⟨hl,hr⟩:=hsn a w e hv h.sim.prok h.sim.inj
  have hsim : Sim w (e.view ps b) os := by
    refine ⟨fun n=>?_,fun i j m m' x hi hj hbi hbj=>?_,fun n o m ho hm=>?_,fun x hx=>.inr hx,fun x hx=>.inl ?_⟩
    · rw [(objsFor_get hos n).1]
      show ((look n ps).bind e.get).isSome=_
      rw [Option.isSome_map]
      cases look n ps with
      | none=>rfl
      | some id=>exact h.sim.dom id
    · simp only [Env.view,Option.bind_eq_some_iff] at hi hj
      obtain ⟨i',p1,p2⟩:=hi
      obtain ⟨j',q1,q2⟩:=hj
      have:=h.sim.inj i' j' m m' x p2 q2 hbi hbj
      subst this
      have e1:=look_findOld (psOkL_2 hps) p1
      rw [look_findOld (psOkL_2 hps) q1] at e1
      cases e1; rfl
    · rw [(objsFor_get hos n).1] at ho
      obtain ⟨o0,ho0,rfl⟩:=Option.map_eq_some_iff.1 ho
      simp only [Option.bind_eq_some_iff] at ho0
      obtain ⟨id,p1,p2⟩:=ho0
      have hm' : e.get id=some m:=by
        have:(look n ps).bind e.get=some m:=hm
        rw [p1] at this; exact this
      have hnm:=(objsFor_get hos n).2 id o0 p1 p2
      refine (h.sim.obj id o0 m p2 hm').ren _ (fun j mj hj hg=>?_) (.inl fun x hx _=>⟨rfl,view_q h.sim.prok hx⟩) (Nat.le_refl _) ⟨rfl,rfl,rfl⟩ (fun _ _=>rfl)
      have hjm:j∈ps.map (·.2):=by
        cases o0 with
        | row dd ty sz els =>
          cases dd with
          | true=>simp [Obj.men] at hj
          | false =>
            simp only [Obj.named,List.all_eq_true] at hnm
            simp only [Obj.men] at hj
            have:∀ l:List AV,(∀ x∈l,AV.namedL (ps.map (·.2)) x.cells=true)→AV.menL j l=true→j∈ps.map (·.2):=by
              intro l
              induction l with
              | nil=>intro _ hm; simp [AV.menL] at hm
              | cons x xs ih =>
                intro hall hm
                simp only [AV.menL,Bool.or_eq_true] at hm
                rcases hm with hm | hm
                · have hx:=hall x (by simp)
                  have hmx:AV.menL j x.cells=true:=by
                    cases x <;> first
                      | (simp [AV.men] at hm; done)
                      | (simpa [AV.cells,AV.menL,AV.men] using hm)
                  exact AV.namedL_men x.cells hx hmx
                · exact ih (fun y hy=>hall y (by simp [hy])) hm
            exact this els hnm hj
        | mp dd sh ents =>
          cases dd with
          | true=>simp [Obj.men] at hj
          | false=>exact mp_named hnm hj
        | ext l J=>simp [Obj.men] at hj
        | gone=>simp [Obj.men] at hj
        | fix ty sz cap els=>simp [Obj.men] at hj
        | grid ty sz oty n rows=>simp [Obj.men] at hj
        | cus C=>simp [Obj.men] at hj
      obtain ⟨n',h1⟩:=findOld_mem hjm
      refine ⟨mj, ?_,mj.same_refl⟩
      show (look (expName ps j) ps).bind e.get=some mj
      rw [show expName ps j=n' from by simp [expName,h1],findOld_look (psOkL_1 hps) h1]; exact hg
    · have h1:=h.sim.new x hx
      have h2:¬ e.owned x:=by
        rintro ⟨id,m,hm,hb⟩
        have:=h.sim.blk_lt hm hb; omega
      cases b
      · exact ⟨h1,h2⟩
      · exact h1
  refine (hc.run w (e.view ps b) (us ++ args.map a.eval ++ vs) hsim (by rw [hl]; simp [hvs,hus]) fun i y v hy hv'=>?_).mono ?_
  · have hx:(st.bound f ++ args.toList.map st.ev ++ caps)[i]?=some ((st.bound f ++ args.toList.map st.ev ++ caps)[i]'(by rw [← hl]; exact (List.getElem?_eq_some_iff.1 hy).1)):=List.getElem?_eq_getElem _
    refine hr i _ y v hx hy ?_
    by_cases hi:i < us.size + args.size
    · rw [List.getElem?_append_left (by simp; omega)] at hx
      rw [Array.getElem?_append_left (by simp; omega)] at hv'
      by_cases hj:i < us.size
      · rw [List.getElem?_append_left (by omega)] at hx
        rw [Array.getElem?_append_left hj] at hv'
        exact hur i _ v hx hv'
      · rw [List.getElem?_append_right (by omega)] at hx
        rw [Array.getElem?_append_right (by omega)] at hv'
        rw [← hus] at hx
        exact map_rd hv args.toList _ _ v hx (by simpa using hv')
    · rw [List.getElem?_append_right (by simp; omega)] at hx
      rw [Array.getElem?_append_right (by simp; omega)] at hv'
      simp only [List.length_append,List.length_map,Array.length_toList,← hus] at hx
      simp only [Array.size_append,Array.size_map] at hv'
      exact hvr _ _ v hx hv'
  · rintro en w' ⟨v,r,objs',ec,rfl,h1,h2,h3,h4⟩
    obtain ⟨k1,k2⟩:=hK r objs' h1
    obtain ⟨e3,q1,q2,q3⟩:=adopt_concL h b hps hd2 k1 (hmv r objs' h1) h2 h3 h4 k2
    exact hn _ _ v w' e3 h1 q1 q2 q3
theorem call_core {o:Oper} {f:Operand} {args:Array Operand} {tys:Array TypeId} (ho:o.op = .call { callee:=.value f,args,argTypes:=tys }) {st S:St} {g:FuncId} {caps:List AV} (hf:st.callee f=some (g,caps)) {ps:List (Nat×Nat)} (hps:psOk ps=true)
    {ys:List AV} {b:Bool} (hsn:st.snaps ps (st.bound f ++ args.toList.map st.ev ++ caps)=some (ys,b)) {os:List (Nat×Obj)} (hos:S.objsFor ps ps=some os) {R:AV→List (Nat×Obj)→Prop} (hc:ACalls P g ys os R) {d:Nat} (hd2:d < 1250)
    (hK:∀ r objs,R r objs→backOk ps d objs=true∧freeNews b r objs=true) {rd:Option Nat} {a:Act} {w:World} {e:Env} (hv:View st a w e) (h:Conc S a w e) {next:Act→World→Prop} {Q:Exit→Act→World→Prop}
    (hn:∀ r objs v w' e',R r objs→Conc (S.adopt ps d objs) a w' e'→Fr w e w' e'→Rd w' e' (r.ren (outName ps d)) v→next (a.put o.dst v) w'):o.wpIn (FR rd) 0 P a w next Q:=
  call_core' ho hf (psOk_l hps) (fun _ _ _ hv hp hi=>snaps_rd (psOk_l hps) hv hp hi hsn) hos hc hd2 hK (fun _ _ _=>movOk_of hps) hv h hn
theorem WOp.call {o:Oper} {f:Operand} {args:Array Operand} {tys:Array TypeId} (ho:o.op = .call { callee:=.value f,args,argTypes:=tys }) {st:St} {g:FuncId} {caps:List AV} (hf:st.callee f=some (g,caps)) (ps:List (Nat×Nat)) (hps:psOk ps=true)
    {ys:List AV} {b:Bool} (hsn:st.snaps ps (st.bound f ++ args.toList.map st.ev ++ caps)=some (ys,b)) {os:List (Nat×Obj)} (hos:st.objsFor ps ps=some os) {R:AV→List (Nat×Obj)→Prop} (hc:ACalls P g ys os R) {d:Nat} (hd:o.dst.getD 1249=d) (hd2:d < 1250) {K:AV→St→Prop}
    (hK:∀ r objs,R r objs→backOk ps d objs=true∧freeNews b r objs=true∧K (r.ren (outName ps d)) (st.adopt ps d objs)):WOp P o st K:=by
  intro rd a w e h next Q hn
  exact call_core ho hf hps hsn hos hc hd2 (fun r objs hR=>⟨(hK r objs hR).1,(hK r objs hR).2.1⟩) h.view h fun r objs v w' e' hR h1 h2 h3=>hn _ _ v w' e' (hK r objs hR).2.2 h1 h2 h3
theorem WOp.callM {o:Oper} {f:Operand} {args:Array Operand} {tys:Array TypeId} (ho:o.op = .call { callee:=.value f,args,argTypes:=tys }) {st:St} {g:FuncId} {caps:List AV} (hf:st.callee f=some (g,caps)) (ps:List (Nat×Nat)) (hps:psOkL ps=true) (ids:List Nat)
    {ys:List AV} {b:Bool} (hsn:st.snaps ps (st.bound f ++ args.toList.map st.ev ++ caps)=some (ys,b)) {os:List (Nat×Obj)} (hos:(st.mutes ids).objsFor ps ps=some os) {R:AV→List (Nat×Obj)→Prop} (hc:ACalls P g ys os R) {d:Nat} (hd:o.dst.getD 1249=d) (hd2:d < 1250) {K:AV→St→Prop}
    (hK:∀ r objs,R r objs→backOk ps d objs=true∧freeNews b r objs=true∧movB ps d objs (st.mutes ids)=true∧K (r.ren (outName ps d)) ((st.mutes ids).adopt ps d objs)):WOp P o st K:=by
  intro rd a w e h next Q hn
  exact call_core' ho hf hps (fun _ _ _ hv hp hi=>snaps_rd hps hv hp hi hsn) hos hc hd2 (fun r objs hR=>⟨(hK r objs hR).1,(hK r objs hR).2.1⟩) (fun r objs hR=>movOk_b (hK r objs hR).2.2.1) h.view h.mutes fun r objs v w' e' hR h1 h2 h3=>hn _ _ v w' e' (hK r objs hR).2.2.2 h1 h2 h3
/-! ### a function's beginning and end -/
def enumA (k:Nat):List AV→List (Nat×AV)
  | []=>[]
  | x :: xs=>(k,x) :: enumA (k + 1) xs
theorem look_enumA:∀ (l:List AV) (k t:Nat) (x:AV),look t (enumA k l)=some x→k≤t∧l[t - k]?=some x
  | y :: ys, k, t, x, h => by
    simp only [enumA,look] at h
    split at h
    · rename_i hk; subst hk; cases h; simp
    · obtain ⟨h1,h2⟩:=look_enumA ys (k + 1) t x h
      refine ⟨by omega, ?_⟩
      rw [show t - k=(t - (k + 1)) + 1 from by omega]; simpa using h2
def St.enter (nt:Nat) (args:List AV) (objs:List (Nat×Obj)):St:=⟨nt,enumA 0 args,objs⟩
def resultA (Γ : TypeId → Option TI) (st : St) : ResultVar → Option AV
  | .tmp t=>some (st.at t)
  | .cell p t=>match Γ t with
    | some ti=>loadA ti st.objs (st.at p)
    | none=>none
def resultsL (Γ : TypeId → Option TI) (st : St) : List ResultVar → Option (List AV)
  | []=>some []
  | x :: xs=>match resultA Γ st x,resultsL Γ st xs with
    | some y,some ys=>some (y :: ys)
    | _,_=>none
def resultsA (Γ:TypeId→Option TI) (st:St) (rs:List ResultVar):Option AV:=
  match resultsL Γ st rs with
  | some [x]=>some x
  | some l=>some (.tup l)
  | none=>none
theorem run_resultA (hΓ : TOk P Γ) {st : St} {a : Act} {w : World} {e : Env} (h : Conc st a w e) {rv : ResultVar} {x : AV} (hr : resultA Γ st rv = some x) :
    ∃ v,((match rv with | .tmp t=>pure (a.tmps.getD t undef) | .cell p t=>do loadVar t (← asAddr (a.tmps.getD p undef))):Sem Value).run P w = .ok v w∧Rd w e x v:=by
  cases rv with
  | tmp t =>
    cases hr
    exact ⟨_,rfl,h.ev (.tmp t)⟩
  | cell p t =>
    simp only [resultA] at hr
    split at hr
    · rename_i ti ht
      have hp:=h.ev (.tmp p)
      obtain ⟨v,h1,h2⟩:=run_loadA (hΓ _ _ ht) h.sim.obj hp hr
      refine ⟨v, ?_,h2⟩
      simp only [Act.eval] at h1
      have hx:∃ ad,a.tmps.getD p undef = .pointer (some ad):=by
        cases hv:a.tmps.getD p undef with
        | pointer q =>
          cases q with
          | some ad=>exact ⟨ad,rfl⟩
          | none=>rw [hv] at h1; simp [Instr.loadAt,Instr.sureAddr] at h1
        | _=>rw [hv] at h1; simp [Instr.loadAt,Instr.sureAddr] at h1
      obtain ⟨ad,hv⟩:=hx
      rw [hv] at h1
      simp only [Instr.loadAt,Instr.sureAddr,Sem.run_bind,Sem.run_pure,Result.andThen_ok] at h1
      simp [hv,asAddr,h1]
    · cases hr
theorem run_resultsL (hΓ : TOk P Γ) {st : St} {a : Act} {w : World} {e : Env} (h : Conc st a w e) : ∀ {rs : List ResultVar} {xs : List AV}, resultsL Γ st rs = some xs →
    ∃ vs : List Value, (rs.mapM fun rv => ((match rv with | .tmp t => pure (a.tmps.getD t undef) | .cell p t => do loadVar t (← asAddr (a.tmps.getD p undef))) : Sem Value)).run P w = .ok vs w ∧ vs.length = xs.length ∧
      ∀ (i:Nat) (x:AV) (v:Value),xs[i]?=some x→vs[i]?=some v→Rd w e x v
  | [],xs,hr=>by cases hr; exact ⟨[],rfl,rfl,fun i x v hx=>by simp at hx⟩
  | rv :: rs,xs,hr=>by
    simp only [resultsL] at hr
    split at hr
    · rename_i y ys h1 h2
      cases hr
      obtain ⟨v,g1,g2⟩:=run_resultA hΓ h h1
      obtain ⟨vs,k1,k2,k3⟩:=run_resultsL hΓ h h2
      refine ⟨v :: vs, ?_,by simp [k2],fun i x u hx hu=>?_⟩
      · rw [List.mapM_cons,Sem.run_bind,g1,Result.andThen_ok,Sem.run_bind,k1]; rfl
      · cases i with
        | zero=>simp at hx hu; subst hx; subst hu; exact g2
        | succ i=>exact k3 i x u (by simpa using hx) (by simpa using hu)
    · cases hr
theorem run_resultsA (hΓ : TOk P Γ) {st : St} {a : Act} {w : World} {e : Env} (h : Conc st a w e) {fn : Func} {x : AV} (hr : resultsA Γ st fn.results.toList = some x) : ∃ v, (results fn a.tmps).run P w = .ok v w ∧ Rd w e x v := by
  unfold resultsA at hr
  have key:∀ xs,resultsL Γ st fn.results.toList=some xs→∃ vs:List Value,vs.length=xs.length∧(∀ (i:Nat) (x:AV) (v:Value),xs[i]?=some x→vs[i]?=some v→Rd w e x v) ∧
      (results fn a.tmps).run P w = .ok (if h:vs.toArray.size=1 then vs.toArray[0] else .tuple vs.toArray) w:=by
    intro xs hxs
    obtain ⟨vs,h1,h2,h3⟩:=run_resultsL hΓ h hxs
    refine ⟨vs,h2,h3, ?_⟩
    unfold results
    rw [Sem.run_bind,Array.mapM_eq_mapM_toList]
    have h1' : (Functor.map (fun a=>a.toArray) (fn.results.toList.mapM fun rv=>((match rv with | .tmp t=>pure (a.tmps.getD t undef) | .cell p t=>do loadVar t (← asAddr (a.tmps.getD p undef))):Sem Value))).run P w = .ok vs.toArray w:=by
      rw [Sem.run_map,h1]; rfl
    exact (congrArg (fun q:Result (Array Value)=>q.andThen _) h1')
  split at hr
  · rename_i y hy
    cases hr
    obtain ⟨vs,h1,h2,h3⟩:=key _ hy
    obtain ⟨v,rfl⟩:∃ v,vs=[v]:=by
      cases vs with
      | nil=>simp at h1
      | cons v t=>cases t with
        | nil=>exact ⟨v,rfl⟩
        | cons=>simp at h1
    exact ⟨v,by rw [h3]; rfl,h2 0 _ v rfl rfl⟩
  · rename_i xs hne hxs
    cases hr
    obtain ⟨vs,h1,h2,h3⟩:=key _ hxs
    refine ⟨.tuple vs.toArray, ?_,.tup _ _ (by simpa using h1) fun i x v hx hv=>h2 i x v hx (by simpa using hv)⟩
    rw [h3,dif_neg]
    intro hsz
    have:vs.length=1:=by simpa using hsz
    obtain ⟨y,rfl⟩:∃ y,xs=[y]:=by
      rw [h1] at this
      cases xs with
      | nil=>simp at this
      | cons v t=>cases t with
        | nil=>exact ⟨v,rfl⟩
        | cons=>simp at this
    exact hne y rfl
  · cases hr
end
end Go.Sim
namespace Go.Sim
open Go.RowKit
section
variable {P:Program} {Γ:TypeId→Option TI}
/-! ### what may be said less -/
theorem Le.kill {st:St} {l:List Nat} (h:∀ id∈l,unp id=true):Le st (st.killIds l):=fun _ _ _ hc=>let ⟨e',h1,h2,_,_,_⟩:=kill_conc hc l h; ⟨e',h1,h2⟩
theorem Le.freeze {st st' : St} {id:Nat} (h:st.freeze id=some st'):Le st st':=fun _ _ _ hc=>let ⟨h1,h2,_⟩:=hc.freeze h; ⟨_,h1,h2⟩
theorem Le.less {st:St} (tm:List (Nat×AV)) (h:∀ t x,look t tm=some x→look t st.tmps=some x):Le st { st with tmps:=tm }:=fun _ w e hc=>⟨e,hc.less tm h,Fr.refl w e⟩
def holdsT (tm:List (Nat×AV)):List (Nat×AV)→Prop
  | []=>True
  | (t,x) :: r=>look t tm=some x∧holdsT tm r
theorem holdsT_look {tm:List (Nat×AV)}:∀ {l:List (Nat×AV)},holdsT tm l→∀ t x,look t l=some x→look t tm=some x
  | (k,y) :: r,h,t,x,hx=>by
    simp only [look] at hx
    split at hx
    · rename_i hk; subst hk; cases hx; exact h.1
    · exact holdsT_look h.2 t x hx
def St.ownNil (st:St) (t id:Nat) (ty:TypeId) (sz:Nat):St:=
  let s:=st.renew id (.row true ty sz [])
  { s with tmps:=upd t (.own id 0 0) s.tmps }
theorem Le.ownNil {st:St} {t id:Nat} {ty:TypeId} {sz:Nat} (hu:unp id=true) (h:look t st.tmps=some (.val (.slice none 0 0))):Le st (st.ownNil t id ty sz):=by
  intro a w e hc
  obtain ⟨c1,f1⟩:=hc.phantom id hu ty sz
  obtain ⟨v,hv,hr⟩:=hc.tmp t _ h
  obtain rfl:=hr.val_inv
  refine ⟨_,⟨c1.sim,c1.defers,c1.size,fun s x hx=>?_⟩,f1⟩
  simp only [St.ownNil,look_upd] at hx
  by_cases hs:t=s
  · subst hs
    rw [if_pos rfl] at hx; cases hx
    exact ⟨_,hv,.own0 id (mt none 0 sz) (by simp [Env.set]) rfl none⟩
  · rw [if_neg hs] at hx
    exact c1.tmp s x hx
theorem Le.immNil {st:St} {t:Nat} (h:look t st.tmps=some (.val (.slice none 0 0))):Le st { st with tmps:=upd t (.imm []) st.tmps }:=by
  intro a w e hc
  obtain ⟨v,hv,hr⟩:=hc.tmp t _ h
  obtain rfl:=hr.val_inv
  refine ⟨e,⟨hc.sim,hc.defers,hc.size,fun s x hx=>?_⟩,Fr.refl w e⟩
  simp only [look_upd] at hx
  by_cases hs:t=s
  · subst hs
    rw [if_pos rfl] at hx; cases hx
    exact ⟨_,hv,.data (.imm0 none 0)⟩
  · rw [if_neg hs] at hx
    exact hc.tmp s x hx
/-! ### the end of a function -/
def expObjs (ρ : Nat → Nat) (objs : List (Nat × Obj)) : List (Nat × Nat) → List (Nat × Obj)
  | []=>[]
  | (n,old) :: r=>match look old objs with
    | some o=>(n,o.ren ρ) :: expObjs ρ objs r
    | none=>expObjs ρ objs r
def expOk (ks:List (Nat×Nat)) (objs:List (Nat×Obj)):Bool:=
  distinct (ks.map (·.1)) && distinct (ks.map (·.2)) && ks.all (fun x=>(unp x.1 && unp x.2) || x.1 == x.2) && objs.all (fun x=>(ks.map (·.2)).contains x.1)
theorem look_expObjs (ρ:Nat→Nat) (objs:List (Nat×Obj)):∀ {ks:List (Nat×Nat)},distinct (ks.map (·.1))=true→∀ j,look j (expObjs ρ objs ks)=((look j ks).bind fun old=>look old objs).map (Obj.ren ρ)
  | [],_,j=>rfl
  | (n,old) :: r,hd,j=>by
    simp only [List.map_cons,distinct,Bool.and_eq_true,Bool.not_eq_true',List.contains_eq_mem,decide_eq_false_iff_not] at hd
    have ih:=look_expObjs ρ objs hd.2 j
    have hno:n=j→look j r=none:=by
      intro hn; subst hn
      cases hl:look n r with
      | none=>rfl
      | some o=>exact absurd (List.mem_map.2 ⟨_,look_mem hl,rfl⟩) hd.1
    simp only [expObjs]
    by_cases hn:n=j
    · have h0:=hno hn
      simp only [look,hn,if_true,Option.bind_some]
      cases hl:look old objs with
      | none=>simp only [Option.map_none]; rw [ih,h0]; rfl
      | some o=>simp [look]
    · simp only [look,if_neg hn]
      cases hl:look old objs with
      | none=>exact ih
      | some o=>simp only [look,if_neg hn]; exact ih
theorem distinct_inj:∀ {ks:List (Nat×Nat)},distinct (ks.map (·.2))=true→∀ i j o,look i ks=some o→look j ks=some o→i=j
  | (k,o') :: r,hd,i,j,o,h1,h2=>by
    simp only [List.map_cons,distinct,Bool.and_eq_true,Bool.not_eq_true',List.contains_eq_mem,decide_eq_false_iff_not] at hd
    simp only [look] at h1 h2
    split at h1 <;> split at h2
    · omega
    · cases h1; exact absurd (List.mem_map.2 ⟨_,look_mem h2,rfl⟩) hd.1
    · cases h2; exact absurd (List.mem_map.2 ⟨_,look_mem h1,rfl⟩) hd.1
    · exact distinct_inj hd.2 i j o h1 h2
theorem export_sim {st : St} {a : Act} {w : World} {e : Env} (h : Conc st a w e) {ks : List (Nat × Nat)} (hk : expOk ks st.objs = true) {x : AV} {v : Value} (hx : Rd w e x v) :
    ∃ e',Sim w e' (expObjs (expName ks) st.objs ks)∧Fr w e w e'∧Rd w e' (x.ren (expName ks)) v:=by
  simp only [expOk,Bool.and_eq_true,List.all_eq_true,Bool.or_eq_true,beq_iff_eq,List.contains_eq_mem,decide_eq_true_eq] at hk
  obtain ⟨⟨⟨k1,k2⟩,k3⟩,k4⟩:=hk
  let e' : Env:={ get:=fun j=>(look j ks).bind e.get,pr:=e.pr,bs:=e.bs }
  have hlive:∀ id m,e.get id=some m→∃ n,findOld id ks=some n∧look n ks=some id:=by
    intro id m hm
    have hd:=h.sim.dom id
    rw [hm] at hd
    obtain ⟨o,ho⟩:=look_some_mem.1 hd.symm
    obtain ⟨n,hn⟩:=findOld_mem (k4 _ ho)
    exact ⟨n,hn,findOld_look k1 hn⟩
  have hg:∀ id m,e.get id=some m→e'.get (expName ks id)=some m:=by
    intro id m hm
    obtain ⟨n,h1,h2⟩:=hlive id m hm
    simp [e',expName,h1,h2,hm]
  have hown:∀ b,e'.owned b→e.owned b:=by
    rintro b ⟨j,m,hj,hb⟩
    simp only [e',Option.bind_eq_some_iff] at hj
    obtain ⟨o,_,hm⟩:=hj
    exact ⟨o,m,hm,hb⟩
  have hfr:Fr w e w e':=by
    refine ⟨rfl,rfl,rfl,Nat.le_refl _,fun _ _ _=>rfl,fun b ho _=>hown b ho,rfl,.of fun id hnu=>?_⟩
    show (look id ks).bind e.get=e.get id
    cases hl:look id ks with
    | some o =>
      rcases k3 _ (look_mem hl) with h3 | h3
      · simp only at h3; rw [hnu] at h3; simp at h3
      · simp only at h3; subst h3; rfl
    | none =>
      cases hm:e.get id with
      | none=>rfl
      | some m =>
        obtain ⟨n,h3,h4⟩:=hlive id m hm
        rcases k3 _ (look_mem h4) with h5 | h5
        · simp only at h5; rw [hnu] at h5; simp at h5
        · simp only at h5; subst h5; rw [hl] at h4; cases h4
  have hq:=hfr.q
  refine ⟨e',⟨fun j=>?_,fun i j m m' b hi hj hb hb'=>?_,fun j o m ho hm=>?_,fun b hb=>h.sim.prok b (hown b hb),h.sim.new⟩,hfr,hx.ren _ (fun id m _ hg'=>⟨m,hg id m hg',m.same_refl⟩) (.inl hq)⟩
  · rw [look_expObjs _ _ k1]
    simp only [e',Option.isSome_map]
    cases hl:look j ks with
    | none=>rfl
    | some o=>simpa using h.sim.dom o
  · simp only [e',Option.bind_eq_some_iff] at hi hj
    obtain ⟨o1,g1,g2⟩:=hi
    obtain ⟨o2,g3,g4⟩:=hj
    have:=h.sim.inj o1 o2 m m' b g2 g4 hb hb'
    subst this
    exact distinct_inj k2 i j o1 g1 g3
  · rw [look_expObjs _ _ k1] at ho
    obtain ⟨o0,ho0,rfl⟩:=Option.map_eq_some_iff.1 ho
    simp only [Option.bind_eq_some_iff] at ho0
    obtain ⟨old,g1,g2⟩:=ho0
    simp only [e',Option.bind_eq_some_iff] at hm
    obtain ⟨old',g3,g4⟩:=hm
    rw [g1] at g3; cases g3
    exact (h.sim.obj old o0 m g2 g4).ren _ (fun id m _ hg'=>⟨m,hg id m hg',m.same_refl⟩) (.inl hq) (Nat.le_refl _) ⟨rfl,rfl,rfl⟩ (fun _ _=>rfl)
def Done (Γ:TypeId→Option TI) (rs:List ResultVar) (R:AV→List (Nat×Obj)→Prop) (st:St):Prop:=
  ∃ x st1 y ks,resultsA Γ st rs=some x∧Le ⟨1,[(0,x)],st.objs⟩ st1∧look 0 st1.tmps=some y∧expOk ks st1.objs=true∧R (y.ren (expName ks)) (expObjs (expName ks) st1.objs ks)
def EndQ (Γ:TypeId→Option TI) (rs:List ResultVar) (R:AV→List (Nat×Obj)→Prop):Exit→St→Prop
  | .normal,st=>Done Γ rs R st
  | .ret,st=>Done Γ rs R st
  | _,_=>False
theorem ACalls.of_W [M : Mode] (hΓ : TOk P Γ) {f : FuncId} {fn : Func} {c : Code} (hf : P.funcs[f]? = some fn) (hb : fn.body = some c) (hnm : (fn.name == "runtime.NumGoroutine") = false) {args : List AV} {objs : List (Nat × Obj)} {R : AV → List (Nat × Obj) → Prop}
    (hn:args.length≤fn.ntmps) (h:W P c (St.enter fn.ntmps args objs) (EndQ Γ fn.results.toList R)):ACalls P f args objs R:=by
  refine ⟨⟨fn,hf,hnm,by simp [hb]⟩,fun w e vals hs hv hr=>?_⟩
  rw [← callsIn_wide (n:=0)]
  refine callsIn_of_wp_marks hf hb trivial ?_
  let e0:Env:={ e with bs:=w.heap.size }
  have hq0:∀ b,e.q b→b < w.heap.size→w.heap[b]?=w.heap[b]?∧e0.q b:=fun b h _=>⟨rfl,h⟩
  have hs0:Sim w e0 objs:=⟨hs.dom,hs.inj,fun id o m ho hm=>by
    have:=(hs.obj id o m ho hm).ren (e':=e0) (fun i=>i) (fun id m _ hg=>⟨m,hg,m.same_refl⟩) (.inl hq0) (Nat.le_refl _) ⟨rfl,rfl,rfl⟩ (fun _ _=>rfl)
    rwa [men_ren_id] at this,hs.prok,hs.new⟩
  have hc:Conc (St.enter fn.ntmps args objs) { tmps:=vals ++ Array.replicate (fn.ntmps - vals.size) undef,defers:=[] } w e0:=by
    refine ⟨hs0,Marks.nil (Nat.le_refl _),by simp [St.enter,hv]; omega,fun t x hx=>?_⟩
    obtain ⟨_,hx'⟩:=look_enumA args 0 t x hx
    rw [Nat.sub_zero] at hx'
    have ht:t < vals.size:=by rw [hv]; exact (List.getElem?_eq_some_iff.1 hx').1
    exact ⟨vals[t],by rw [Array.getElem?_append_left ht,Array.getElem?_eq_getElem ht],(hr t x _ hx' (Array.getElem?_eq_getElem ht)).evolve hq0 (fun _ _=>rfl)⟩
  have leave:∀ (ds:List Deferred) (w1 w' : World) (e' : Env) (st1:St) (tmps:Array Value) (x:AV),Marks w' e' ds→Conc st1 { tmps:=tmps,defers:=[] } w' e'→Fr w e0 w' e' →
      resultsA Γ st1 fn.results.toList=some x→∀ st2 y ks,Le ⟨1,[(0,x)],st1.objs⟩ st2→look 0 st2.tmps=some y→expOk ks st2.objs=true→R (y.ren (expName ks)) (expObjs (expName ks) st2.objs ks) →
      LeavesInM Fence.wide 0 P fn tmps (fun en w'=>∃ v res objs' e',en = .returned v∧R res objs'∧Sim w' e' objs'∧Fr w e w' e'∧Rd w' e' res v) ds .returning w':=by
    intro ds
    induction ds with
    | nil =>
      intro w1 w' e' st1 tmps x _ hc' hf' hres st2 y ks hle hy hok hR
      obtain ⟨v,h1,h2⟩:=run_resultsA hΓ hc' hres
      have hcx:Conc ⟨1,[(0,x)],st1.objs⟩ { tmps:=#[v],defers:=[] } w' e':=by
        refine ⟨hc'.sim,Marks.nil hc'.defers.1.2,rfl,fun t z hz=>?_⟩
        simp only [look] at hz
        split at hz
        · rename_i ht; subst ht; cases hz; exact ⟨v,rfl,h2⟩
        · cases hz
      obtain ⟨e1,c1,f1⟩:=hle _ _ _ hcx
      obtain ⟨v',hv',h3⟩:=c1.tmp 0 y hy
      have hvv:v'=v:=by simpa using hv'.symm
      subst hvv
      obtain ⟨e2,s2,f2,r2⟩:=export_sim c1 hok h3
      have f3:=(hf'.trans f1).trans f2
      let e3:Env:={ e2 with bs:=e.bs }
      have hq3:∀ b,e2.q b→b < w'.heap.size→w'.heap[b]?=w'.heap[b]?∧e3.q b:=fun b h _=>⟨rfl,h⟩
      refine ⟨v',h1,v',_,_,e3,rfl,hR,⟨s2.dom,s2.inj,fun id o m ho hm=>?_,s2.prok,s2.new⟩,⟨f3.os,f3.tape,f3.output,f3.size,f3.blk,f3.own, ?_,⟨f3.pins.pin,f3.pins.ext⟩⟩,r2.evolve hq3 (fun _ _=>rfl)⟩
      · have:=(s2.obj id o m ho hm).ren (e':=e3) (fun i=>i) (fun id m _ hg=>⟨m,hg,m.same_refl⟩) (.inl hq3) (Nat.le_refl _) ⟨rfl,rfl,rfl⟩ (fun _ _=>rfl)
        rwa [men_ren_id] at this
      · show (e2.pr,e.bs)=(e.pr,e.bs)
        rw [f3.pr]
    | cons d ds ih =>
      intro w1 w' e' st1 tmps x hm hc' hf' hres st2 y ks hle hy hok hR
      obtain ⟨D,hd,hD,hno,hbs⟩:=hm.2 d (by simp)
      have hlt:D < w'.heap.size:=(Array.getElem?_eq_some_iff.1 hD).1
      have hDw:w.heap.size≤D:=by rw [hf'.bs] at hbs; exact hbs
      let w2:World:=w'.putObj D (.deferred none)
      have hother:∀ b,b≠D→w2.heap[b]?=w'.heap[b]?:=fun b hb=>World.putObj_heap_other hb
      have hcell:∀ b,CellIn w' b→w2.heap[b]?=w'.heap[b]?:=fun b ⟨o,v,hv⟩=>hother b (fun he=>by
        subst he
        simp [World.cell?,hD] at hv)
      have hobj:∀ m b,(∃ id,e'.get id=some m)→m.has b→w2.heap[b]?=w'.heap[b]?:=fun m b ⟨id,hg⟩ hb=>hother b (fun he=>hno (by subst he; exact ⟨id,m,hg,hb⟩))
      have hc2:Conc st1 { tmps:=tmps,defers:=[] } w2 e':=by
        refine ⟨⟨hc'.sim.dom,hc'.sim.inj,fun id o m ho hg=>(hc'.sim.obj id o m ho hg).quiet hcell (fun b hb=>hobj m b ⟨id,hg⟩ hb) (by simp [w2]) ⟨rfl,rfl,rfl⟩,hc'.sim.prok,fun b hb=>hc'.sim.new b (by simpa [w2] using hb)⟩,Marks.nil (by simpa [w2] using hc'.defers.1.2),hc'.size,fun t x hx=>?_⟩
        obtain ⟨v,hv,hr⟩:=hc'.tmp t x hx
        exact ⟨v,hv,hr.evolve' (fun b hq hb=>⟨hcell b hb,hq⟩) (fun _ _=>rfl)⟩
      have hf2:Fr w e0 w2 e':=⟨hf'.os,hf'.tape,hf'.output,by simpa [w2] using hf'.size,fun b hb hn=>(hother b (by omega)).trans (hf'.blk b hb hn),hf'.own,hf'.prb,hf'.pins⟩
      refine ⟨by simp,.inl ⟨D,w2,by rw [hd], ?_,ih w1 w2 e' st1 tmps x ?_ hc2 hf2 hres st2 y ks hle hy hok hR⟩⟩
      · exact run_takeDeferred hD
      · have hnd:=List.nodup_cons.1 hm.1.1
        refine ⟨⟨hnd.2,by simpa [w2] using hm.1.2⟩,fun d' hd'=>?_⟩
        obtain ⟨D',q1,q2,q3,q4⟩:=hm.2 d' (by simp [hd'])
        by_cases hDD:D'=D
        · exfalso
          subst hDD
          rw [← hd] at q1
          subst q1
          exact hnd.1 hd'
        · exact ⟨D',q1,by rw [hother D' hDD]; exact q2,q3,q4⟩
  have h0:=h M.out _ w e0 hc
  rw [M.hout] at h0
  refine wpIn_mono h0 ?_
  rintro ex a' w' ⟨st',e',g1,g2,g3⟩
  have key:Done Γ fn.results.toList R st'→LeavesInM Fence.wide 0 P fn a'.tmps (fun en w'=>∃ v res objs' e',en = .returned v∧R res objs'∧Sim w' e' objs'∧Fr w e w' e'∧Rd w' e' res v) a'.defers .returning w':=by
    rintro ⟨x,st2,y,ks,hres,hle,hy,hok,hR⟩
    exact leave a'.defers w' w' e' st' a'.tmps x g1.defers ⟨g1.sim,Marks.nil g1.defers.1.2,g1.size,g1.tmp⟩ g2 hres st2 y ks hle hy hok hR
  cases ex with
  | normal=>exact key g3
  | ret=>exact key g3
  | _=>exact g3.elim
/-! ### operations, as far as they go -/
noncomputable def runSeg (Γ:TypeId→Option TI) (ops:List Oper):List Oper→St→List Oper×St
  | [],st=>([],st)
  | o :: r, st => match wantedA ops o st with
    | some true=>match evalAll Γ o st with
      | some (x,st')=>match dstOk o st with
        | true=>runSeg Γ ops r (st'.put o.dst x)
        | false=>(o :: r,st)
      | none=>(o :: r,st)
    | some false=>match dstOk o st with
      | true=>runSeg Γ ops r (st.put o.dst .dead)
      | false=>(o :: r,st)
    | none=>(o :: r,st)
theorem WOps.seg (hΓ : TOk P Γ) {ops : List Oper} {K : St → Prop} : ∀ {l : List Oper} {st : St}, WOps P ops K (runSeg Γ ops l st).1 (runSeg Γ ops l st).2 → WOps P ops K l st
  | [],st,h=>h
  | o :: r, st, h => by
    simp only [runSeg] at h
    split at h
    · rename_i hw
      split at h
      · rename_i x st' hev
        split at h
        · rename_i hd
          exact ⟨hd,true,hw,WOp.eval hΓ hev (WOps.seg hΓ h)⟩
        · exact h
      · exact h
    · rename_i hw
      split at h
      · rename_i hd
        exact ⟨hd,false,hw,_,.inl rfl,WOps.seg hΓ h⟩
      · exact h
    · exact h
theorem WOps.run (hΓ:TOk P Γ) {ops:List Oper} {K:St→Prop} {l l' : List Oper} {st st' : St} (hr:runSeg Γ ops l st=(l',st')) (h:WOps P ops K l' st'):WOps P ops K l st:=
  WOps.seg hΓ (by rw [hr]; exact h)
end
end Go.Sim
namespace Go.Sim
section
variable {P:Program}
def FlatF (P:Program):Nat→List Field→Prop
  | _,[]=>True
  | k, f :: r => f.name ≠ "_" ∧ f.offset = k ∧ (∃ kd, P.underlying f.type = some (.int kd)) ∧ FlatF P (k + 1) r
theorem run_part_flat {t:TypeId} (h:∃ kd,P.underlying t=some (.int kd)) {xs:Array Value} {off:Nat} {v:Value} (hx:xs[off]?=some v) (w:World):(part t xs off).run P w = .ok v w:=by
  obtain ⟨kd,h⟩:=h
  simp [part,isAgg,run_underlying h,hx]
theorem eqFields_flat (w : World) (d : Nat) : ∀ (fs : List Field) (k : Nat) (xs ys : List Value) (r : Bool), FlatF P k fs → k + fs.length = xs.length → eqVals (xs.drop k) (ys.drop k) = some r → (Op.eqFields (d + 1) xs.toArray ys.toArray fs).run P w = .ok r w
  | [],k,xs,ys,r,_,hl,he=>by
    rw [List.drop_eq_nil_of_le (by simp at hl; omega)] at he
    cases hy:ys.drop k with
    | nil=>rw [hy] at he; simp [eqVals] at he; subst he; rfl
    | cons y t=>rw [hy] at he; simp [eqVals] at he
  | f :: fs, k, xs, ys, r, ⟨h1, h2, h3, h4⟩, hl, he => by
    simp only [List.length_cons] at hl
    have hk:k < xs.length:=by omega
    have hxd:xs.drop k=xs[k] :: xs.drop (k + 1):=(List.drop_eq_getElem_cons hk)
    rw [hxd] at he
    cases hyk:ys.drop k with
    | nil=>rw [hyk] at he; cases hx:xs[k] <;> rw [hx] at he <;> simp [eqVals] at he
    | cons y yt =>
      have hky:k < ys.length:=by
        have:=congrArg List.length hyk; simp at this; omega
      have hyd:ys.drop k=ys[k] :: ys.drop (k + 1):=(List.drop_eq_getElem_cons hky)
      have hyv:ys[k]=y∧ys.drop (k + 1)=yt:=by rw [hyk] at hyd; cases hyd; exact ⟨rfl,rfl⟩
      rw [hyk,← hyv.2] at he
      have p1:=run_part_flat (P:=P) h3 (xs:=xs.toArray) (off:=f.offset) (v:=xs[k]) (by rw [h2]; simp [hk]) w
      have p2:=run_part_flat (P:=P) h3 (xs:=ys.toArray) (off:=f.offset) (v:=y) (by rw [h2]; simp [hky,hyv.1]) w
      obtain ⟨kq,h3⟩:=h3
      cases hx:xs[k] with
      | int kd a =>
        rw [hx] at he p1
        cases y with
        | int kd' b =>
          simp only [eqVals] at he
          split at he
          · rename_i hkk
            subst hkk
            obtain ⟨r',hr',hrr⟩:=Option.map_eq_some_iff.1 he
            have ih:=eqFields_flat w d fs (k + 1) xs ys r' h4 (by omega) hr'
            simp only [Op.eqFields]
            rw [if_pos h1]
            simp only [Sem.run_bind,p1,p2,Result.andThen_ok,run_equalIn_int w d f.type kd kq a b h3]
            cases hab:(a == b) with
            | true=>rw [hab] at hrr; simp only [Bool.not_true,Bool.false_eq_true,if_false]; rw [ih,← hrr]; rfl
            | false=>rw [hab] at hrr; simp [← hrr]
          · cases he
        | _=>simp [eqVals] at he
      | _=>rw [hx] at he; simp [eqVals] at he
def NestF (P:Program):Nat→Nat→List Field→Prop
  | k,e,[]=>k=e
  | k, e, f :: r => f.name ≠ "_" ∧ f.offset = k ∧ (((∃ kd, P.underlying f.type = some (.int kd)) ∧ NestF P (k + 1) e r) ∨
      ∃ gs:Array Field,P.underlying f.type=some (.struct gs)∧P.stoodInHeld f.type=false∧(P.info? f.type).map (·.size)=some gs.size∧FlatF P 0 gs.toList∧NestF P (k + gs.size) e r)
theorem NestF.le {P:Program}:∀ {fs:List Field} {k e:Nat},NestF P k e fs→k≤e
  | [],k,e,h=>Nat.le_of_eq h
  | f :: r,k,e,⟨_,_,h⟩=>by
    rcases h with ⟨_,h⟩ | ⟨gs,_,_,_,_,h⟩
    · have:=h.le; omega
    · have:=h.le; omega
theorem eqFlat_ints {t:TypeId} {fs:Array Field} (hu:P.underlying t=some (.struct fs)) (hs:P.stoodInHeld t=false) (hg:P.eqGuardType P.depth t=false) (hsz:(P.info? t).map (·.size)=some fs.size) (hf:FlatF P 0 fs.toList):EqFlat P t:=by
  refine ⟨hg,fun w xs ys r he hl=>?_⟩
  have hfo:P.fieldsOf t=fs:=by simp [Program.fieldsOf,hu]
  rw [hsz] at hl
  have hl' : fs.size=xs.length:=by simpa using hl
  rw [run_equalIn_agg w 9999 t xs.toArray ys.toArray (by rw [hfo]; exact hu) hs,hfo]
  exact eqFields_flat w 9998 fs.toList 0 xs ys r hf (by simpa using hl') (by simpa using he)
/-! ### such a struct as a map's key -/
theorem keyLits_i64 {d:Nat} {t:TypeId} {a:Int} (h:P.underlying t=some (.int .i64)) (hw:(Lit.int .i64 a).wf=true):P.keyLits (d + 1) t [.int .i64 a]=some [.int .i64 a]:=by
  unfold Program.keyLits; rw [h]; simp [hw]
def FlatI (P:Program):Nat→List Field→Prop
  | _,[]=>True
  | k, f :: r => f.name ≠ "_" ∧ f.offset = k ∧ P.underlying f.type = some (.int .i64) ∧ P.cellsOf f.type = 1 ∧ FlatI P (k + 1) r
theorem FlatI.flatF {P:Program}:∀ {k:Nat} {l:List Field},FlatI P k l→FlatF P k l
  | _,[],_=>trivial
  | _,_ :: _,⟨h1,h2,h3,_,h5⟩=>⟨h1,h2,⟨_,h3⟩,h5.flatF⟩
theorem keyLits_fields {d:Nat} {cs:List Value}:∀ {fs:List Field} {k:Nat},FlatI P k fs→cs.length=k + fs.length→cs.all wfI64=true→(fs.mapM fun f=>P.keyLits (d + 1) f.type ((cs.drop f.offset).take (P.cellsOf f.type))).isSome=true
  | [],k,_,_,_=>rfl
  | f :: fs, k, ⟨h1, h2, h3, h4, h5⟩, hl, hw => by
    simp only [List.length_cons] at hl
    have hk:k < cs.length:=by omega
    obtain ⟨a,ha⟩:=wfI64_inv (List.all_eq_true.1 hw _ (List.getElem_mem hk))
    have hwf:=List.all_eq_true.1 hw _ (List.getElem_mem hk)
    rw [ha] at hwf
    have e1:(cs.drop f.offset).take (P.cellsOf f.type)=[.int .i64 a]:=by
      rw [h2,h4,List.drop_eq_getElem_cons hk,ha]; simp
    obtain ⟨ls,hls⟩:=Option.isSome_iff_exists.1 (keyLits_fields (d:=d) h5 (by omega) hw)
    rw [List.mapM_cons,e1,keyLits_i64 h3 hwf]
    simp [hls]
theorem keyTI_struct {t : TypeId} {fs : Array Field} (hu : P.underlying t = some (.struct fs)) (law : Maps.Keyed P t) (hkt : P.keyType t = true) (hsz : P.cellsOf t = fs.size) (hn : (fs.all (·.name != "_")) = true) {ts : Nat} (hts : P.types.size = ts + 1) (hf : FlatI P 0 fs.toList) {zs : Array Value} (hz : zs.size = fs.size) : KeyTI P t (.agg zs) := by
  refine ⟨law,fun v hv=>?_⟩
  cases v <;> simp only [fitsKey,Bool.false_eq_true] at hv
  rename_i xs
  simp only [Bool.and_eq_true,beq_iff_eq] at hv
  obtain ⟨h1,h2⟩:=hv
  have hx:xs.size=P.cellsOf t:=by rw [← h1,hz,hsz]
  obtain ⟨ls,hls⟩:=Option.isSome_iff_exists.1 (keyLits_fields (P:=P) (d:=ts) hf (cs:=xs.toList) (by simp [← h1,hz]) h2)
  refine ⟨.string (keyBytes ls.flatten), ?_⟩
  unfold keyOf
  rw [hu]
  simp only [hkt,Value.formed,hu,hx,beq_self_eq_true,Bool.and_self,if_true,Value.cells]
  have hk:P.keyLits (P.types.size + 1) t xs.toList=some ls.flatten:=by
    unfold Program.keyLits
    rw [hu]
    simp only
    rw [if_pos ⟨by simpa using hx,hn⟩,hts,hls]; rfl
  rw [hk]; rfl
theorem mapM_some {α β:Type} {f:α→Option β}:∀ {l:List α},(∀ x∈l,(f x).isSome=true)→(l.mapM f).isSome=true
  | [],_=>rfl
  | x :: xs,h=>by
    obtain ⟨y,hy⟩:=Option.isSome_iff_exists.1 (h x (by simp))
    obtain ⟨ys,hys⟩:=Option.isSome_iff_exists.1 (mapM_some (f:=f) (l:=xs) fun z hz=>h z (List.mem_cons_of_mem _ hz))
    rw [List.mapM_cons,hy]
    simp [hys]
def CellsI (P:Program):Nat→Nat→List Field→Prop
  | k,e,[]=>k=e
  | k, e, f :: r => f.name ≠ "_" ∧ f.offset = k ∧ ((P.underlying f.type = some (.int .i64) ∧ P.cellsOf f.type = 1 ∧ CellsI P (k + 1) e r) ∨
      ∃ n t',P.underlying f.type=some (.array n t')∧P.underlying t'=some (.int .i64)∧P.cellsOf t'=1∧P.cellsOf f.type=n∧CellsI P (k + n) e r)
theorem CellsI.le {P:Program}:∀ {fs:List Field} {k e:Nat},CellsI P k e fs→k≤e
  | [],k,e,h=>Nat.le_of_eq h
  | f :: r,k,e,⟨_,_,h⟩=>by
    rcases h with ⟨_,_,h⟩ | ⟨n,t',_,_,_,_,h⟩
    · have:=h.le; omega
    · have:=h.le; omega
theorem keyLits_arr {d:Nat} {t t' : TypeId} {n:Nat} {cs:List Value} (hu:P.underlying t=some (.array n t')) (he:P.underlying t'=some (.int .i64)) (h1:P.cellsOf t'=1) (hn:P.cellsOf t=n) (hl:cs.length=n) (hw:cs.all wfI64=true):(P.keyLits (d + 2) t cs).isSome=true:=by
  unfold Program.keyLits
  rw [hu]
  simp only
  rw [if_pos (by rw [hl,hn])]
  rw [Option.isSome_map]
  refine mapM_some fun i hi=>?_
  have hk:i < cs.length:=by rw [hl]; exact List.mem_range.1 hi
  have hwf:=List.all_eq_true.1 hw _ (List.getElem_mem hk)
  obtain ⟨a,ha⟩:=wfI64_inv hwf
  rw [ha] at hwf
  have e1:(cs.drop (i * P.cellsOf t')).take (P.cellsOf t')=[.int .i64 a]:=by
    rw [h1,Nat.mul_one,List.drop_eq_getElem_cons hk,ha]; simp
  rw [e1,keyLits_i64 he hwf]; rfl
theorem keyLits_cells {d : Nat} {cs : List Value} {e : Nat} : ∀ {fs : List Field} {k : Nat}, CellsI P k e fs → cs.length = e → cs.all wfI64 = true → (fs.mapM fun f => P.keyLits (d + 2) f.type ((cs.drop f.offset).take (P.cellsOf f.type))).isSome = true
  | [],k,_,_,_=>rfl
  | f :: fs, k, ⟨h1, h2, h3⟩, hl, hw => by
    rcases h3 with ⟨h3,h4,h5⟩ | ⟨n,t',h3,h4,h5,h6,h7⟩
    · have hk:k < cs.length:=by have:=h5.le; omega
      obtain ⟨a,ha⟩:=wfI64_inv (List.all_eq_true.1 hw _ (List.getElem_mem hk))
      have hwf:=List.all_eq_true.1 hw _ (List.getElem_mem hk)
      rw [ha] at hwf
      have e1:(cs.drop f.offset).take (P.cellsOf f.type)=[.int .i64 a]:=by
        rw [h2,h4,List.drop_eq_getElem_cons hk,ha]; simp
      obtain ⟨ls,hls⟩:=Option.isSome_iff_exists.1 (keyLits_cells (d:=d) h5 hl hw)
      rw [List.mapM_cons,e1,keyLits_i64 h3 hwf]
      simp [hls]
    · have hk:k + n≤cs.length:=by have:=h7.le; omega
      obtain ⟨ls,hls⟩:=Option.isSome_iff_exists.1 (keyLits_cells (d:=d) h7 hl hw)
      obtain ⟨y,hy⟩:=Option.isSome_iff_exists.1 (keyLits_arr (d:=d) (cs:=(cs.drop k).take n) h3 h4 h5 h6 (by rw [List.length_take,List.length_drop]; omega) (List.all_eq_true.2 fun x hx=>List.all_eq_true.1 hw x (List.mem_of_mem_drop (List.mem_of_mem_take hx))))
      rw [List.mapM_cons,h2,h6,hy]
      simp [hls]
theorem keyTI_cells {t : TypeId} {fs : Array Field} {e : Nat} (hu : P.underlying t = some (.struct fs)) (law : Maps.Keyed P t) (hkt : P.keyType t = true) (hsz : P.cellsOf t = e) (hn : (fs.all (·.name != "_")) = true) {ts : Nat} (hts : P.types.size = ts + 2) (hf : CellsI P 0 e fs.toList) {zs : Array Value} (hz : zs.size = e) : KeyTI P t (.agg zs) := by
  refine ⟨law,fun v hv=>?_⟩
  cases v <;> simp only [fitsKey,Bool.false_eq_true] at hv
  rename_i xs
  simp only [Bool.and_eq_true,beq_iff_eq] at hv
  obtain ⟨h1,h2⟩:=hv
  have hx:xs.size=P.cellsOf t:=by rw [← h1,hz,hsz]
  obtain ⟨ls,hls⟩:=Option.isSome_iff_exists.1 (keyLits_cells (P:=P) (d:=ts) hf (cs:=xs.toList) (by simp [← h1,hz]) h2)
  refine ⟨.string (keyBytes ls.flatten), ?_⟩
  unfold keyOf
  rw [hu]
  simp only [hkt,Value.formed,hu,hx,beq_self_eq_true,Bool.and_self,if_true,Value.cells]
  have hk:P.keyLits (P.types.size + 1) t xs.toList=some ls.flatten:=by
    unfold Program.keyLits
    rw [hu]
    simp only
    rw [if_pos ⟨by simpa using hx,hn⟩,hts,hls]; rfl
  rw [hk]; rfl
end
end Go.Sim
namespace Go.Sim
open Go.RowKit
section
variable {P:Program} {Γ:TypeId→Option TI}
/-! ### states that are alike to every look -/
theorem Conc.congr {S S' : St} {a:Act} {w:World} {e:Env} (h:Conc S a w e) (ht:∀ t,look t S'.tmps=look t S.tmps) (ho:∀ id,look id S'.objs=look id S.objs) (hn:S'.nt=S.nt):Conc S' a w e:=
  ⟨⟨fun id=>by rw [ho]; exact h.sim.dom id,h.sim.inj,fun id o m hl hm=>h.sim.obj id o m (by rw [← ho]; exact hl) hm,h.sim.prok,h.sim.new⟩,h.defers,by rw [hn]; exact h.size,fun t x hx=>h.tmp t x (by rw [← ht]; exact hx)⟩
theorem RdD.men {w:World} {q:Nat→Prop} {id:Nat} {x:AV} {v:Value} (h:RdD w q x v):x.men id=false:=by
  induction h with
  | val=>rfl
  | imm0=>rfl
  | imm=>rfl
  | agg l vs hs hr ih =>
    simp only [AV.men]
    have:∀ l' : List AV,(∀ y∈l',y.men id=false)→AV.menL id l'=false:=by
      intro l'; induction l' with
      | nil=>exact fun _=>rfl
      | cons y ys ih2=>exact fun h=>by simp [AV.menL,h y (by simp),ih2 (fun z hz=>h z (by simp [hz]))]
    refine this l fun y hy=>?_
    obtain ⟨i,hi⟩:=List.mem_iff_getElem?.1 hy
    have hlt:i < vs.size:=by rw [hs]; exact (List.getElem?_eq_some_iff.1 hi).1
    exact ih i y vs[i] hi (Array.getElem?_eq_getElem hlt)
theorem Rd.men {w:World} {e:Env} {id:Nat} (hid:e.get id=none) {x:AV} {v:Value} (h:Rd w e x v):x.men id=false:=by
  have aux:∀ l' : List AV,(∀ y∈l',y.men id=false)→AV.menL id l'=false:=by
    intro l'; induction l' with
    | nil=>exact fun _=>rfl
    | cons y ys ih2=>exact fun h=>by simp [AV.menL,h y (by simp),ih2 (fun z hz=>h z (by simp [hz]))]
  have nid:∀ i m,e.get i=some m→(i == id)=false:=fun i m hm=>by
    cases hb:i == id with
    | false=>rfl
    | true=>simp only [beq_iff_eq] at hb; subst hb; rw [hid] at hm; cases hm
  induction h with
  | dead=>rfl
  | data h=>exact h.men
  | own0 i m hm=>exact nid i m hm
  | own i off len m b hm=>exact nid i m hm
  | ptr i k off m b hm=>exact nid i m hm
  | ownX i off len m hm=>exact nid i m hm
  | ptrX i k off m hm=>exact nid i m hm
  | iptr=>rfl
  | map i m b hm=>exact nid i m hm
  | yld i m b hm=>exact nid i m hm
  | mapX i m hm=>exact nid i m hm
  | yldX i m hm=>exact nid i m hm
  | arr i _ _ _ _ m b hm=>exact nid i m hm
  | arrX i _ _ _ _ m hm=>exact nid i m hm
  | sub i _ _ _ m hm=>exact nid i m hm
  | subX i _ _ _ m hm=>exact nid i m hm
  | sptr i _ _ _ m hm=>exact nid i m hm
  | sptrX i _ _ _ m hm=>exact nid i m hm
  | clo f l vs hs hr ih | mth f l vs hs hr ih | agg l vs hs hr ih | tup l vs hs hr ih =>
    simp only [AV.men]
    refine aux l fun y hy=>?_
    obtain ⟨i,hi⟩:=List.mem_iff_getElem?.1 hy
    have hlt:i < vs.size:=by rw [hs]; exact (List.getElem?_eq_some_iff.1 hi).1
    exact ih i y vs[i] hi (Array.getElem?_eq_getElem hlt)
theorem kill_same {id:Nat} {x:AV} (h:x.men id=false):x.kill id=x:=by simp [AV.kill,h]
theorem menL_false {id:Nat}:∀ {l:List AV},AV.menL id l=false→∀ y∈l,y.men id=false
  | y :: ys,h,z,hz=>by
    simp only [AV.menL,Bool.or_eq_false_iff] at h
    rcases List.mem_cons.1 hz with rfl | hz
    · exact h.1
    · exact menL_false h.2 z hz
theorem map_kill_same {id:Nat} {l:List AV} (h:AV.menL id l=false):l.map (AV.kill id)=l:=by
  conv=>rhs; rw [← List.map_id l]
  exact List.map_congr_left fun y hy=>kill_same (menL_false h y hy)
theorem mapTop_same {id:Nat} {x:AV} (h:x.men id=false):x.mapTop (AV.kill id)=x:=by
  cases x <;> simp only [AV.mapTop] <;> first
    | exact kill_same h
    | (rw [map_kill_same (by simpa [AV.men] using h)])
theorem mapCells_same {id:Nat} {x:AV} (h:x.men id=false):x.mapCells (AV.kill id)=x:=by
  cases x <;> simp only [AV.mapCells] <;> first
    | exact kill_same h
    | (rw [map_kill_same (by simpa [AV.men] using h)])
theorem turn_same {S : St} {a : Act} {w : World} {e : Env} (h : Conc S a w e) {id : Nat} (hid : e.get id = none) : (∀ t, look t (S.turn id (AV.kill id)).tmps = look t S.tmps) ∧ (∀ j o, look j S.objs = some o → (∃ m, e.get j = some m) → look j (S.turn id (AV.kill id)).objs = some o) ∧
    (∀ j,look j S.objs=none→look j (S.turn id (AV.kill id)).objs=none):=by
  refine ⟨fun t=>?_,fun j o ho hm=>?_,fun j hj=>?_⟩
  · simp only [St.turn,look_mapV]
    cases hl:look t S.tmps with
    | none=>rfl
    | some x =>
      obtain ⟨v,_,hr⟩:=h.tmp t x hl
      simp [mapTop_same (hr.men hid)]
  · obtain ⟨m,hm⟩:=hm
    simp only [St.turn,look_del,look_mapV,ho]
    rw [if_neg (by intro he; subst he; rw [hid] at hm; cases hm)]
    have hob:=h.sim.obj j o m ho hm
    cases o with
    | mp d sh ents =>
      cases d with
      | true=>rfl
      | false =>
        simp only [Option.map_some,Obj.map,Option.some.injEq,Obj.mp.injEq,true_and]
        conv=>rhs; rw [← List.map_id ents]
        refine List.map_congr_left fun y hy=>?_
        obtain ⟨i,hi⟩:=List.mem_iff_getElem?.1 hy
        obtain ⟨b,es,clock,_,_,_,_,h4⟩:=hob.blk
        obtain ⟨en,_,_,g3⟩:=h4 i y.1 y.2 hi
        simp [mapTop_same (g3.rd.men hid)]
    | ext l J=>rfl
    | gone=>rfl
    | fix ty sz cap els=>rfl
    | grid ty sz oty n rows=>rfl
    | cus C=>rfl
    | row d ty sz els =>
      cases d with
      | true=>rfl
      | false =>
        simp only [Option.map_some,Obj.map,Option.some.injEq,Obj.row.injEq,true_and]
        conv=>rhs; rw [← List.map_id els]
        refine List.map_congr_left fun y hy=>mapCells_same ?_
        obtain ⟨i,hi⟩:=List.mem_iff_getElem?.1 hy
        have hk:=hob.blk
        cases hmb:m.blk with
        | none =>
          simp only [hmb] at hk
          have:=hob.len
          rw [hk] at this
          have:=(List.getElem?_eq_some_iff.1 hi).1
          omega
        | some b =>
          simp only [hmb] at hk
          obtain ⟨cur,h1,h2,h3⟩:=hk
          have hcell:∀ z∈y.cells,z.men id=false:=by
            intro z hz
            obtain ⟨k,hk⟩:=List.mem_iff_getElem?.1 hz
            obtain ⟨v,_,_,g3⟩:=h3 i y hi k z hk
            exact g3.rd.men hid
          cases y <;> simp only [AV.cells,List.mem_singleton,forall_eq] at hcell <;> first
            | exact hcell
            | (simp only [AV.men]
               clear hi hy h3
               rename_i l
               induction l with
               | nil=>rfl
               | cons z zs ih=>simp [AV.menL,hcell z (by simp),ih (fun q hq=>hcell q (by simp [hq]))])
  · simp only [St.turn,look_del,look_mapV,hj]; simp
theorem turn_look {S:St} {a:Act} {w:World} {e:Env} (h:Conc S a w e) {id:Nat} (hid:e.get id=none):∀ j,look j (S.turn id (AV.kill id)).objs=look j S.objs:=by
  intro j
  obtain ⟨_,h2,h3⟩:=turn_same h hid
  cases hl:look j S.objs with
  | none=>exact h3 j hl
  | some o=>exact h2 j o hl (Option.isSome_iff_exists.1 (by rw [h.sim.dom,hl]; rfl))
theorem killIds_look {a:Act} {w:World} {e:Env}:∀ (l:List Nat) {S:St},Conc S a w e→(∀ id∈l,e.get id=none)→(∀ t,look t (S.killIds l).tmps=look t S.tmps)∧(∀ j,look j (S.killIds l).objs=look j S.objs)
  | [],S,_,_=>⟨fun _=>rfl,fun _=>rfl⟩
  | id :: l,S,h,hn=>by
    have hid:=hn id (by simp)
    have h1:=(turn_same h hid).1
    have h2:=turn_look h hid
    have hc:Conc (S.turn id (AV.kill id)) a w e:=h.congr h1 h2 rfl
    obtain ⟨g1,g2⟩:=killIds_look l hc (fun j hj=>hn j (by simp [hj]))
    exact ⟨fun t=>by simp only [St.killIds]; rw [g1,h1],fun j=>by simp only [St.killIds]; rw [g2,h2]⟩
theorem renew_look {S:St} {a:Act} {w:World} {e:Env} (h:Conc S a w e) {id:Nat} (hid:e.get id=none) (o:Obj):(∀ t,look t (S.renew id o).tmps=look t S.tmps)∧∀ j,look j (S.renew id o).objs=if id=j then some o else look j S.objs:=by
  have h1:=(turn_same h hid).1
  have h2:=turn_look h hid
  refine ⟨h1,fun j=>?_⟩
  show look j ((id,o) :: del id (mapV (Obj.map (AV.kill id)) S.objs))=_
  simp only [look]
  split
  · rfl
  · exact h2 j
/-! ### one operation, seen from what it waits for -/
def Sub (st S:St):Prop:=(∀ t x,look t st.tmps=some x→look t S.tmps=some x)∧∀ id o,look id st.objs=some o→look id S.objs=some o
theorem Sub.view {st S:St} (hs:Sub st S) {a:Act} {w:World} {e:Env} (h:Conc S a w e):View st a w e:=by
  refine ⟨fun o=>?_,fun id o m ho hm=>h.sim.obj id o m (hs.2 id o ho) hm⟩
  cases o with
  | tmp t =>
    have h1:=h.ev (.tmp t)
    simp only [St.ev,St.at] at h1 ⊢
    cases hl:look t st.tmps with
    | none=>exact .dead _
    | some x=>rw [hs.1 t x hl] at h1; exact h1
  | const v=>exact .data (.val v)
  | global g =>
    exact glob_rd (fun id h1=>by
      obtain ⟨o,ho⟩:=Option.isSome_iff_exists.1 h1
      rw [h.sim.dom,hs.2 id o ho]; rfl) (fun id o m ho hm=>h.sim.obj id o m (hs.2 id o ho) hm) g
  | func f=>exact .clo f [] #[] rfl (fun i x v hx=>by simp at hx)
theorem Sub.ev {st S:St} (hs:Sub st S) (o:Operand):st.ev o = .dead∨S.ev o=st.ev o:=by
  cases o with
  | tmp t =>
    simp only [St.ev,St.at]
    cases hl:look t st.tmps with
    | none=>exact .inl rfl
    | some x=>rw [hs.1 t x hl]; exact .inr rfl
  | const v=>exact .inr rfl
  | global g =>
    simp only [St.ev,St.glob]
    cases hl:look 10900 st.objs with
    | none=>exact .inl rfl
    | some o=>rw [hs.2 _ o hl]; exact .inr rfl
  | func f=>exact .inr rfl
def QStep (P : Program) (o : Oper) (st : St) (r : AV) (new : List (Nat × Obj)) : Prop :=
  ∀ S rd a w e, Conc S a w e → Sub st S → (∀ x ∈ new, (look x.1 st.objs).isSome = true ∨ look x.1 S.objs = none) → ∀ (next : Act → World → Prop) (Q : Exit → Act → World → Prop),
    (∀ v w' e',Conc { S with objs:=new ++ S.objs } a w' e'→Fr w e w' e'→Rd w' e' r v→next (a.put o.dst v) w')→o.wpIn (FR rd) 0 P a w next Q
theorem QStep.pure (hΓ:TOk P Γ) {o:Oper} {st:St} {r:AV} (hr:evalP Γ o st=some r):QStep P o st r []:=by
  intro S rd a w e h hs _ next Q hn
  obtain ⟨v,h1,h2⟩:=evalP_ok hΓ hr (hs.view h)
  refine ⟨fun _ _=>trivial, ?_⟩
  rw [semAt_ok h1 (by simp)]
  exact hn v w e (by simpa using h) (Fr.refl w e) h2
noncomputable def evalN (Γ:TypeId→Option TI) (o:Oper) (st:St):Option (AV×List (Nat×Obj)):=
  match o.op with
  | .box el x=>match slotId o with
    | some id=>if (st.ev x).fit∧(st.ev x).isData∧unp id then some (.ptr id 0 0,[(id,.row false el (st.ev x).cells.length [st.ev x])]) else none
    | none=>none
  | .alloc el=>match Γ el,slotId o with
    | some ti,some id=>if (zeroA ti.zero).fit∧unp id then some (.ptr id 0 0,[(id,.row false el (zeroA ti.zero).cells.length [zeroA ti.zero])]) else none
    | _,_=>none
  | .buildSlice t len parts=>match Γ t,slotId o with
    | some ⟨_,_,_,.slice el,_,_⟩,some id=>match Γ el with
      | some te=>if AV.isDataL (parts.toList.map fun p=>st.ev p.2)=true then (match (⟨0,[],[]⟩:St).buildSlice te el id len (parts.toList.map fun p=>(p.1,st.ev p.2)) with
        | some (r,s)=>some (r,s.objs)
        | none=>none) else none
      | none=>none
    | _,_=>none
  | .makeSlice t l c=>match Γ t,slotId o with
    | some ⟨_,_,_,.slice el,_,_⟩,some id=>match Γ el with
      | some te=>(match (⟨0,[],[]⟩:St).makeSlice te el id (st.ev l) (st.ev c) with
        | some (r,s)=>some (r,s.objs)
        | none=>none)
      | none=>none
    | _,_=>none
  | _=>none
theorem toData1_data {S:St} {x:AV} (h:x.isData=true):S.toData1 (fun y=>y) x=some (x,S,fun y=>y):=by
  unfold St.toData1
  cases x <;> first
    | (simp [AV.isData] at h; done)
    | simp [h]
theorem toDataL_data {S:St}:∀ {l:List AV},AV.isDataL l=true→S.toDataL (fun y=>y) l=some (l,S,fun y=>y)
  | [],_=>rfl
  | x :: xs,h=>by
    simp only [AV.isDataL,Bool.and_eq_true] at h
    simp only [St.toDataL,toData1_data h.1,toDataL_data h.2]
theorem toDataE_data {S:St} {x:AV} (h:x.isData=true):S.toDataE (fun y=>y) x=some (x,S,fun y=>y):=by
  unfold St.toDataE
  split
  · rename_i l
    rw [toDataL_data (by simpa [AV.isData] using h)]
  · exact toData1_data h
theorem toDataEs_data {S:St}:∀ {l:List AV},AV.isDataL l=true→S.toDataEs (fun y=>y) l=some (l,S,fun y=>y)
  | [],_=>rfl
  | x :: xs,h=>by
    simp only [AV.isDataL,Bool.and_eq_true] at h
    simp only [St.toDataEs,toDataE_data h.1,toDataEs_data h.2]
theorem get_none {S:St} {a:Act} {w:World} {e:Env} (h:Conc S a w e) {id:Nat} (hid:look id S.objs=none):e.get id=none:=by
  have:=h.sim.dom id
  rw [hid] at this
  cases hm:e.get id with
  | none=>rfl
  | some m=>rw [hm] at this; simp at this
theorem QStep.ofN (hΓ : TOk P Γ) {o : Oper} {st : St} {r : AV} {new : List (Nat × Obj)} (hr : evalN Γ o st = some (r, new)) (hfresh : ∀ x ∈ new, look x.1 st.objs = none) : QStep P o st r new := by
  have main:∀ (S:St) rd a w e,Conc S a w e→∀ (id:Nat) (ob:Obj),look id S.objs=none→new=[(id,ob)]→(∀ f,Obj.map f ob=ob∨True)→∀ S',evalW0 Γ o S=some (r,S')→(∀ t,look t S'.tmps=look t S.tmps)→(∀ j,look j S'.objs=if id=j then some ob else look j S.objs) →
      ∀ (next:Act→World→Prop) (Q:Exit→Act→World→Prop),(∀ v w' e',Conc { S with objs:=new ++ S.objs } a w' e'→Fr w e w' e'→Rd w' e' r v→next (a.put o.dst v) w')→o.wpIn (FR rd) 0 P a w next Q:=by
    intro S rd a w e h id ob hno hnew _ S' hev ht hobj next Q hn
    obtain ⟨v,w',e',hs,hc,hf,hrd⟩:=evalW0_ok hΓ hev h
    have hc' : Conc { S with objs:=new ++ S.objs } a w' e':=hc.congr (fun t=>(ht t).symm) (fun j=>by
      rw [hobj]; subst hnew; simp [look]) (by rw [← hc.size,h.size])
    refine ⟨fun _ _=>trivial, ?_⟩
    rcases hs with hs | ⟨hs,rfl⟩
    · rw [semAt_ok hs (by simp)]; exact hn v w' e' hc' hf hrd
    · rw [semAt_ok hs (by simp)]; exact hn _ w' e' hc' hf hrd
  intro S rd a w e h hs hno' next Q hn
  have hno:∀ x∈new,look x.1 S.objs=none:=fun x hx=>(hno' x hx).resolve_left (by rw [hfresh x hx]; simp)
  unfold evalN at hr
  split at hr
  · rename_i el x ho
    split at hr
    · rename_i id hid
      split at hr
      · rename_i hc
        cases hr
        have hno' : look id S.objs=none:=hno _ List.mem_cons_self
        have hge:=get_none h hno'
        have hx:S.ev x=st.ev x:=by
          rcases hs.ev x with hd | hd
          · rw [hd] at hc; simp [AV.isData] at hc
          · exact hd
        have hmen:(st.ev x).men id=false:=AV.men_of_isData id _ hc.2.1
        have hmap:Obj.map (AV.kill id) (.row false el (st.ev x).cells.length [st.ev x]) = .row false el (st.ev x).cells.length [st.ev x]:=by
          simp [Obj.map,mapCells_same hmen]
        obtain ⟨g1,g2⟩:=renew_look h hge (.row false el (st.ev x).cells.length [st.ev x])
        exact main S rd a w e h id _ hno' rfl (fun _=>.inr trivial) (S.renew id (.row false el (st.ev x).cells.length [st.ev x])) (by
          simp only [evalW0,ho,hid,St.box,hx]
          rw [if_pos ⟨hc.1,hc.2.2⟩,hmap]) g1 g2 next Q hn
      · cases hr
    · cases hr
  · rename_i el ho
    split at hr
    · rename_i ti id ht hid
      split at hr
      · rename_i hc
        cases hr
        have hno' : look id S.objs=none:=hno _ List.mem_cons_self
        have hge:=get_none h hno'
        have hmen:(zeroA ti.zero).men id=false:=AV.men_of_isData id _ (zeroA_data _)
        have hmap:Obj.map (AV.kill id) (.row false el (zeroA ti.zero).cells.length [zeroA ti.zero]) = .row false el (zeroA ti.zero).cells.length [zeroA ti.zero]:=by
          simp [Obj.map,mapCells_same hmen]
        obtain ⟨g1,g2⟩:=renew_look h hge (.row false el (zeroA ti.zero).cells.length [zeroA ti.zero])
        exact main S rd a w e h id _ hno' rfl (fun _=>.inr trivial) (S.renew id (.row false el (zeroA ti.zero).cells.length [zeroA ti.zero])) (by
          simp only [evalW0,ho,ht,hid,St.box]
          rw [if_pos ⟨hc.1,hc.2⟩,hmap]) g1 g2 next Q hn
      · cases hr
    · cases hr
  · rename_i t len parts ho
    split at hr
    · rename_i s1 s2 s3 el s4 s5 id ht hid
      split at hr
      · rename_i te hte
        split at hr
        · rename_i hdata
          split at hr
          · rename_i r' s hb
            cases hr
            have hparts:(parts.toList.map fun p=>(p.1,S.ev p.2))=(parts.toList.map fun p=>(p.1,st.ev p.2)):=by
              refine List.map_congr_left fun p hp=>?_
              rcases hs.ev p.2 with hd | hd
              · have:=AV.isDataL_mem hdata (List.mem_map.2 ⟨p,hp,rfl⟩)
                rw [hd] at this; simp [AV.isData] at this
              · rw [hd]
            have hmm:(parts.toList.map fun p=>(p.1,st.ev p.2)).map (·.2)=parts.toList.map fun p=>st.ev p.2:=by simp
            unfold St.buildSlice at hb
            split at hb
            · rename_i hc
              rw [hmm,toDataEs_data hdata] at hb
              simp only at hb
              split at hb
              · rename_i hall
                cases hb
                have hno' : look id S.objs=none:=hno (id,_) (List.mem_cons_self)
                have hge:=get_none h hno'
                obtain ⟨g1,g2⟩:=renew_look h hge (.row true el te.size (parts.toList.map fun p=>st.ev p.2))
                exact main S rd a w e h id _ hno' rfl (fun _=>.inr trivial) (S.renew id (.row true el te.size (parts.toList.map fun p=>st.ev p.2))) (by
                  simp only [evalW0,ho,ht,hid,hte,hparts,St.buildSlice]
                  rw [if_pos hc,hmm,toDataEs_data hdata]
                  simp only
                  rw [if_pos hall]) g1 g2 next Q hn
              · cases hb
            · cases hb
          · cases hr
        · cases hr
      · cases hr
    · cases hr
  · rename_i t l c ho
    split at hr
    · rename_i s1 s2 s3 el s4 s5 id ht hid
      split at hr
      · rename_i te hte
        split at hr
        · rename_i r' s hb
          cases hr
          unfold St.makeSlice at hb
          split at hb
          · rename_i q n q2 k hl hc
            split at hb
            · rename_i hcond
              cases hb
              have hlS:S.ev l = .val (.int q n):=by
                rcases hs.ev l with hd | hd
                · rw [hl] at hd; cases hd
                · rw [hd,hl]
              have hcS:S.ev c = .val (.int q2 k):=by
                rcases hs.ev c with hd | hd
                · rw [hc] at hd; cases hd
                · rw [hd,hc]
              have hno' : look id S.objs=none:=hno (id,_) (List.mem_cons_self)
              have hge:=get_none h hno'
              obtain ⟨g1,g2⟩:=renew_look h hge (.row true el te.size (List.replicate n.toNat (zeroA te.zero)))
              exact main S rd a w e h id _ hno' rfl (fun _=>.inr trivial) (S.renew id (.row true el te.size (List.replicate n.toNat (zeroA te.zero)))) (by
                simp only [evalW0,ho,ht,hid,hte,hlS,hcS,St.makeSlice]
                rw [if_pos hcond]) g1 g2 next Q hn
            · cases hb
          · cases hb
        · cases hr
      · cases hr
    · cases hr
  · cases hr
def QStepE (P : Program) (o : Oper) (st : St) (R : AV → List (Nat × Obj) → Prop) : Prop :=
  ∀ S rd a w e, Conc S a w e → Sub st S → (∀ r new, R r new → ∀ x ∈ new, (look x.1 st.objs).isSome = true ∨ look x.1 S.objs = none) → ∀ (next : Act → World → Prop) (Q : Exit → Act → World → Prop),
    (∀ r new,R r new→∀ v w' e',Conc { S with objs:=new ++ S.objs } a w' e'→Fr w e w' e'→Rd w' e' r v→next (a.put o.dst v) w')→o.wpIn (FR rd) 0 P a w next Q
theorem QStepE.call {o : Oper} {f : Operand} {args : Array Operand} {tys : Array TypeId} (ho : o.op = .call { callee := .value f, args, argTypes := tys }) {st : St} {g : FuncId} {caps : List AV} (hf : st.callee f = some (g, caps)) {ps : List (Nat × Nat)} (hps : psOk ps = true) {ys : List AV} {b : Bool}
    (hsn:st.snaps ps (st.bound f ++ args.toList.map st.ev ++ caps)=some (ys,b)) {os:List (Nat×Obj)} (hos:st.objsFor ps ps=some os) {R0:AV→List (Nat×Obj)→Prop} (hc:ACalls P g ys os R0) {d:Nat} (hd2:d < 1250)
    (hK:∀ r0 n0,R0 r0 n0→(backOk ps d n0=true∧freeNews b r0 n0=true)∧(ps.all fun x=>(look x.1 n0).isSome)=true∧((newIds d n0).all fun id=>(look id st.objs).isNone)=true) :
    QStepE P o st (fun r new=>∃ r0 n0,R0 r0 n0∧r=r0.ren (outName ps d)∧new=n0.map fun x=>(outName ps d x.1,x.2.ren (outName ps d))):=by
  intro S rd a w e h hs hno next Q hn
  have hosS:S.objsFor ps ps=some os:=by
    have aux:∀ (l:List (Nat×Nat)) os,st.objsFor ps l=some os→S.objsFor ps l=some os:=by
      intro l
      induction l with
      | nil=>exact fun os h=>h
      | cons x r ih =>
        obtain ⟨n,id⟩:=x
        intro os h
        simp only [St.objsFor] at h ⊢
        split at h
        · rename_i o os' h1 h2
          rw [hs.2 id o h1,ih os' h2]
          exact h
        · cases h
    exact aux ps os hos
  refine call_core ho hf hps hsn hosS hc hd2 (fun r objs hR=>(hK r objs hR).1) (hs.view h) h fun r objs v w' e' hR h1 h2 h3=>?_
  obtain ⟨⟨hkeys,_⟩,hall,hfr⟩:=hK r objs hR
  have hno:=hno _ _ ⟨r,objs,hR,rfl,rfl⟩
  simp only [backOk,Bool.and_eq_true,List.all_eq_true,Bool.or_eq_true,decide_eq_true_eq,Bool.not_eq_true',Bool.and_eq_false_iff,decide_eq_false_iff_not] at hkeys
  obtain ⟨hk1,hk2⟩:=hkeys
  have hslot:∀ n id,look n ps=some id→¬ (8 * d≤id∧id < 8 * d + 8):=fun n id hl=>by have:=hk2 _ (look_mem hl); simp only at this; omega
  have hpassed:∀ n id,look n ps=some id→(look id S.objs).isSome=true:=by
    intro n id hl
    have hg:=(objsFor_get hosS n).1
    rw [hl] at hg
    have aux:∀ (l:List (Nat×Nat)) os,S.objsFor ps l=some os→∀ x∈l,(look x.2 S.objs).isSome=true:=by
      intro l
      induction l with
      | nil=>intro os _ x hx; simp at hx
      | cons y r ih =>
        obtain ⟨n',id'⟩:=y
        intro os h x hx
        simp only [St.objsFor] at h
        split at h
        · rename_i o os' h1' h2'
          rcases List.mem_cons.1 hx with rfl | hx
          · rw [h1']; rfl
          · exact ih os' h2' x hx
        · cases h
    exact aux ps os hosS _ (look_mem hl)
  have hkill : ∀ id ∈ newIds d objs, e.get id = none := fun id hid => by
    obtain ⟨n,q1,q2,rfl⟩:=mem_newIds.1 hid
    obtain ⟨o2,ho2⟩:=look_some_mem.1 q2
    have hln : look n ps = none := by
      cases hl:look n ps with
      | none=>rfl
      | some id' => have := psOk_3 hps hl
                    have:=hk1 _ ho2
                    simp only at this
                    omega
    have hon:outName ps d n=atSlot d n:=by simp [outName,hln]
    rcases hno (outName ps d n,o2.ren (outName ps d)) (List.mem_map.2 ⟨_,ho2,rfl⟩) with h4 | h4
    · simp only at h4
      rw [hon] at h4
      simp only [List.all_eq_true] at hfr
      have:=hfr _ hid
      rw [Option.isNone_iff_eq_none] at this
      rw [this] at h4; cases h4
    · simp only at h4
      rw [hon] at h4
      exact get_none h h4
  obtain ⟨g1,g2⟩:=killIds_look _ h hkill
  refine hn _ _ ⟨r,objs,hR,rfl,rfl⟩ v w' e' (h1.congr (fun t=>?_) (fun j=>?_) (by rw [← h1.size,h.size])) h2 h3
  · exact (g1 t).symm
  · show look j (_ ++ S.objs)=look j ((objs.map fun x=>(outName ps d x.1,x.2.ren (outName ps d))) ++ delAll (ps.map (·.2)) (S.killIds (newIds d objs)).objs)
    rw [look_append,look_append,look_delAll,g2]
    split
    · rfl
    · rename_i hno2
      split
      · rename_i hmem
        exfalso
        obtain ⟨n,hn⟩:=findOld_mem hmem
        rw [look_back (psOk_l hps) hslot _ hk1,hn] at hno2
        simp only [List.all_eq_true] at hall
        have:=hall _ (look_mem (findOld_look (psOk_1 hps) hn))
        simp only at this
        obtain ⟨o2,ho2⟩:=Option.isSome_iff_exists.1 this
        simp only [ho2] at hno2; cases hno2
      · rfl
theorem QStep.call {o:Oper} {f:Operand} {args:Array Operand} {tys:Array TypeId} (ho:o.op = .call { callee:=.value f,args,argTypes:=tys }) {st:St} {g:FuncId} {caps:List AV} (hf:st.callee f=some (g,caps)) {ps:List (Nat×Nat)} (hps:psOk ps=true) {ys:List AV} {b:Bool}
    (hsn:st.snaps ps (st.bound f ++ args.toList.map st.ev ++ caps)=some (ys,b)) {os:List (Nat×Obj)} (hos:st.objsFor ps ps=some os) {r0:AV} {n0:List (Nat×Obj)} (hc:ACalls P g ys os (fun r objs=>r=r0∧objs=n0)) {d:Nat} (hd2:d < 1250)
    (hK:backOk ps d n0=true∧freeNews b r0 n0=true) (hall:(ps.all fun x=>(look x.1 n0).isSome)=true) (hfr:((newIds d n0).all fun id=>(look id st.objs).isNone)=true):QStep P o st (r0.ren (outName ps d)) (n0.map fun x=>(outName ps d x.1,x.2.ren (outName ps d))):=by
  intro S rd a w e h hs hno next Q hn
  refine QStepE.call ho hf hps hsn hos hc hd2 (fun r objs hR=>by obtain ⟨rfl,rfl⟩:=hR; exact ⟨hK,hall,hfr⟩) S rd a w e h hs ?_ next Q ?_
  · rintro _ _ ⟨_,_,⟨rfl,rfl⟩,rfl,rfl⟩; exact hno
  · rintro _ _ ⟨_,_,⟨rfl,rfl⟩,rfl,rfl⟩; exact hn
end
end Go.Sim
namespace Go.Sim
open Go.RowKit
section
variable {P:Program} {Γ:TypeId→Option TI}
def directDeps (o:Oper):List Nat:=o.after.toList.filterMap fun e=>if Region.binds .any e then some e.on else none
def mergeN:List Nat→List Nat→List Nat
  | [],a=>a
  | x :: r,a=>mergeN r (if a.contains x then a else x :: a)
def closeDeps (acc:List (List Nat)):List Nat→List Nat→List Nat
  | [],a=>a
  | j :: r,a=>closeDeps acc r (if a.contains j then a else mergeN (acc.getD j []) (j :: a))
def allDeps:List Oper→List (List Nat)→List (List Nat)
  | [],acc=>acc
  | o :: r,acc=>allDeps r (acc ++ [closeDeps acc (directDeps o) []])
theorem mem_mergeN {x : Nat} : ∀ {l a : List Nat}, x ∈ mergeN l a → x ∈ l ∨ x ∈ a
  | [],a,h=>.inr h
  | y :: r, a, h => by
    rcases mem_mergeN (l:=r) h with h | h
    · exact .inl (List.mem_cons_of_mem _ h)
    · split at h
      · exact .inr h
      · rcases List.mem_cons.1 h with rfl | h
        · exact .inl (by simp)
        · exact .inr h
theorem mem_closeDeps {acc : List (List Nat)} {x : Nat} : ∀ {l a : List Nat}, x ∈ closeDeps acc l a → x ∈ a ∨ ∃ j ∈ l, x = j ∨ x ∈ acc.getD j []
  | [],a,h=>.inl h
  | j :: r, a, h => by
    rcases mem_closeDeps (l:=r) h with h | ⟨j',h1,h2⟩
    · split at h
      · exact .inl h
      · rcases mem_mergeN h with h | h
        · exact .inr ⟨j,by simp,.inr h⟩
        · rcases List.mem_cons.1 h with rfl | h
          · exact .inr ⟨x,by simp,.inl rfl⟩
          · exact .inl h
    · exact .inr ⟨j',List.mem_cons_of_mem _ h1,h2⟩
structure REnt where
  dst:Option Tmp
  r:AV
  new:List (Nat×Obj)
def REnt.add (e:REnt) (s:St):St:={ s with tmps:=(match e.dst with | some d=>upd d e.r s.tmps | none=>s.tmps),objs:=e.new ++ s.objs }
def mkSt (sel:Nat→Bool):Nat→List REnt→St→St
  | _,[],s=>s
  | k,e :: r,s=>mkSt sel (k + 1) r (if sel k then e.add s else s)
def dels:List Nat→List (Nat×AV)→List (Nat×AV)
  | [],l=>l
  | t :: r,l=>dels r (del t l)
theorem look_dels (s:Nat):∀ (ts:List Nat) (l:List (Nat×AV)),look s (dels ts l)=if s∈ts then none else look s l
  | [],l=>by simp [dels]
  | t :: r, l => by
    simp only [dels,look_dels s r (del t l),look_del,List.mem_cons]
    by_cases h1:s∈r
    · simp [h1]
    · by_cases h2:t=s
      · subst h2; simp
      · simp [h1,h2,Ne.symm h2]
def badFrom (deps : List (List Nat)) (k : Nat) : Nat → List Oper → List Nat
  | _,[]=>[]
  | j,o :: r=>match o.dst with
    | some d=>if j=k∨(deps.getD k []).contains j∨(deps.getD j []).contains k then badFrom deps k (j + 1) r else d :: badFrom deps k (j + 1) r
    | none=>badFrom deps k (j + 1) r
def badObjs (deps:List (List Nat)) (k:Nat):List (Nat×List Nat)→List Nat
  | []=>[]
  | (j,ids) :: r=>if j=k∨(deps.getD k []).contains j∨(deps.getD j []).contains k then badObjs deps k r else ids ++ badObjs deps k r
def viewSt (ops:List Oper) (deps:List (List Nat)) (eff:List (Nat×List Nat)) (s0:St) (k:Nat) (ents:List REnt):St:=
  let s:=mkSt (fun i=>(deps.getD k []).contains i) 0 ents { s0 with tmps:=dels (badFrom deps k 0 ops) s0.tmps }
  { s with objs:=delAll (badObjs deps k eff) s.objs }
def outOk (eff:List (Nat×List Nat)) (k:Nat) (o:Oper) (v:St) (new:List (Nat×Obj)):Prop:=
  ∀ x∈new,(∃ d:Nat,o.dst=some d∧8 * d≤x.1∧x.1 < 8 * d + 8)∨((look x.1 v.objs).isSome=true∧∃ ids,(k,ids)∈eff∧x.1∈ids)
abbrev DrawK:=List Oper→List REnt→Prop
def drawK (P:Program) (ops:List Oper) (s0:St) (K:St→Prop):DrawK:=fun rest ents=>WOps P ops K rest (mkSt (fun _=>true) 0 ents s0)
def WDraw (P:Program) (ops:List Oper) (deps:List (List Nat)) (eff:List (Nat×List Nat)) (s0:St) (K:DrawK):Nat→List Oper→Nat→List REnt→Prop
  | 0,rest,_,ents=>K rest ents
  | _ + 1,[],_,_=>False
  | n + 1, o :: rest, k, ents => ∃ t, wantedA ops o (viewSt ops deps eff s0 k ents) = some t ∧
      if t then ∃ r new,QStep P o (viewSt ops deps eff s0 k ents) r new∧outOk eff k o (viewSt ops deps eff s0 k ents) new∧WDraw P ops deps eff s0 K n rest (k + 1) (ents ++ [⟨o.dst,r,new⟩])
      else ∃ y,(y = .dead∨y = .val undef)∧WDraw P ops deps eff s0 K n rest (k + 1) (ents ++ [⟨o.dst,y,[]⟩])
def drawOk (ops:List Oper) (deps:List (List Nat)) (n nt:Nat):Bool:=
  (ops.zipIdx.all fun (o,i)=>(directDeps o).all fun j=>decide (j < i)) && distinct (ops.filterMap (·.dst)) && (ops.all fun o=>match o.dst with | some d=>decide (d < nt) | none=>true) &&
  ((List.range ops.length).all fun k=>decide (k < n) || (List.range k).all fun j=>(deps.getD k []).contains j)
def freshOk (ops:List Oper) (objs:List (Nat×Obj)):Bool:=
  objs.all fun x=>ops.all fun o=>match o.dst with | some d=>!(decide (8 * (d:Nat)≤x.1) && decide (x.1 < 8 * (d:Nat) + 8)) | none=>true
def slotHas (o:Oper) (id:Nat):Bool:=match o.dst with | some d=>decide (8 * (d:Nat)≤id) && decide (id < 8 * (d:Nat) + 8) | none=>false
theorem slotHas_iff {o:Oper} {id:Nat}:slotHas o id=true↔∃ d:Nat,o.dst=some d∧8 * d≤id∧id < 8 * d + 8:=by
  unfold slotHas
  cases h:o.dst with
  | none=>simp
  | some d =>
    simp only [Bool.and_eq_true,decide_eq_true_eq]
    exact ⟨fun h=>⟨d,rfl,h⟩,fun ⟨d',h1,h2⟩=>by cases h1; exact h2⟩
def effOk (ops : List Oper) (deps : List (List Nat)) (eff : List (Nat × List Nat)) (objs : List (Nat × Obj)) : Bool :=
  eff.all fun x=>(x.2.all fun id=>(look id objs).isSome || (deps.getD x.1 []).any fun c=>match ops[c]? with | some o=>slotHas o id | none=>false) &&
    (eff.all fun y=>x.1 == y.1 || !(x.2.any y.2.contains) || (deps.getD y.1 []).contains x.1 || (deps.getD x.1 []).contains y.1) && deps.all fun l=>l.all fun j=>(deps.getD j []).all l.contains
/-! #### what a chosen state says -/
theorem mkSt_nt (sel:Nat→Bool):∀ (ents:List REnt) (k:Nat) (s:St),(mkSt sel k ents s).nt=s.nt
  | [],k,s=>rfl
  | e :: r,k,s=>by simp only [mkSt]; rw [mkSt_nt sel r (k + 1) _]; split <;> rfl
theorem mkSt_tmp_none (sel : Nat → Bool) (t : Nat) : ∀ (ents : List REnt) (k : Nat) (s : St), (∀ j e, ents[j]? = some e → e.dst = some t → sel (k + j) = false) → look t (mkSt sel k ents s).tmps = look t s.tmps
  | [],k,s,_=>rfl
  | e :: r, k, s, h => by
    simp only [mkSt]
    rw [mkSt_tmp_none sel t r (k + 1) _ (fun j e' hj hd=>by have:=h (j + 1) e' (by simpa using hj) hd; rw [show k + 1 + j=k + (j + 1) from by omega]; exact this)]
    split
    · rename_i hs
      simp only [REnt.add]
      cases hd:e.dst with
      | none=>rfl
      | some d =>
        simp only [look_upd]
        rw [if_neg]
        intro hdt
        have:=h 0 e rfl (by rw [hd,hdt])
        rw [Nat.add_zero,hs] at this; cases this
    · rfl
theorem mkSt_tmp_some (sel:Nat→Bool) (t:Nat):∀ (ents:List REnt) (k:Nat) (s:St) (j:Nat) (e:REnt),(∀ i e',ents[i]?=some e'→e'.dst=some t→i=j)→ents[j]?=some e→e.dst=some t→sel (k + j)=true→look t (mkSt sel k ents s).tmps=some e.r
  | [],k,s,j,e,_,hj,_,_=>by simp at hj
  | e0 :: r,k,s,j,e,hu,hj,hd,hs=>by
    simp only [mkSt]
    cases j with
    | zero =>
      simp at hj; subst hj
      rw [Nat.add_zero] at hs
      rw [mkSt_tmp_none sel t r (k + 1) _ (fun i e' hi hd'=>by have:=hu (i + 1) e' (by simpa using hi) hd'; omega)]
      simp [hs,REnt.add,hd,look_upd]
    | succ j =>
      exact mkSt_tmp_some sel t r (k + 1) _ j e (fun i e' hi hd'=>by have:=hu (i + 1) e' (by simpa using hi) hd'; omega) (by simpa using hj) hd (by rw [show k + 1 + j=k + (j + 1) from by omega]; exact hs)
theorem mkSt_obj_none (sel : Nat → Bool) (id : Nat) : ∀ (ents : List REnt) (k : Nat) (s : St), (∀ j e, ents[j]? = some e → (look id e.new).isSome → sel (k + j) = false) → look id (mkSt sel k ents s).objs = look id s.objs
  | [],k,s,_=>rfl
  | e :: r, k, s, h => by
    simp only [mkSt]
    rw [mkSt_obj_none sel id r (k + 1) _ (fun j e' hj hd=>by have:=h (j + 1) e' (by simpa using hj) hd; rw [show k + 1 + j=k + (j + 1) from by omega]; exact this)]
    split
    · rename_i hs
      simp only [REnt.add,look_append]
      cases hl:look id e.new with
      | none=>rfl
      | some o =>
        have:=h 0 e rfl (by rw [hl]; rfl)
        rw [Nat.add_zero,hs] at this; cases this
    · rfl
theorem mkSt_obj_some (sel:Nat→Bool) (id:Nat) (o:Obj):∀ (ents:List REnt) (k:Nat) (s:St) (j:Nat) (e:REnt),(∀ i e',ents[i]?=some e'→(look id e'.new).isSome→j < i→sel (k + i)=false)→ents[j]?=some e→look id e.new=some o→sel (k + j)=true→look id (mkSt sel k ents s).objs=some o
  | [],k,s,j,e,_,hj,_,_=>by simp at hj
  | e0 :: r,k,s,j,e,hu,hj,hd,hs=>by
    simp only [mkSt]
    cases j with
    | zero =>
      simp at hj; subst hj
      rw [Nat.add_zero] at hs
      rw [mkSt_obj_none sel id r (k + 1) _ (fun i e' hi hd'=>by have:=hu (i + 1) e' (by simpa using hi) hd' (by omega); rw [show k + 1 + i=k + (i + 1) from by omega]; exact this)]
      simp [hs,REnt.add,look_append,hd]
    | succ j =>
      exact mkSt_obj_some sel id o r (k + 1) _ j e (fun i e' hi hd' hlt=>by have:=hu (i + 1) e' (by simpa using hi) hd' (by omega); rw [show k + 1 + i=k + (i + 1) from by omega]; exact this) (by simpa using hj) hd (by rw [show k + 1 + j=k + (j + 1) from by omega]; exact hs)
theorem last_touch (sel : Nat → Bool) (id : Nat) (ents : List REnt) : (∃ j e o, ents[j]? = some e ∧ look id e.new = some o ∧ sel j = true ∧ ∀ i e', ents[i]? = some e' → (look id e'.new).isSome → j < i → sel i = false) ∨ ∀ j e, ents[j]? = some e → (look id e.new).isSome → sel j = false := by
  have aux:∀ n,(∃ j e o,ents[j]?=some e∧look id e.new=some o∧sel j=true∧∀ i e',ents[i]?=some e'→(look id e'.new).isSome→j < i→sel i=false)∨∀ j e,ents.length - n≤j→ents[j]?=some e→(look id e.new).isSome→sel j=false:=by
    intro n
    induction n with
    | zero=>exact .inr fun j e hj he=>by have:=(List.getElem?_eq_some_iff.1 he).1; omega
    | succ n ih =>
      rcases ih with ih | ih
      · exact .inl ih
      · by_cases hlt:n < ents.length
        · have he:ents[ents.length - (n + 1)]?=some ents[ents.length - (n + 1)]:=List.getElem?_eq_getElem (by omega)
          by_cases hc:(look id ents[ents.length - (n + 1)].new).isSome=true∧sel (ents.length - (n + 1))=true
          · obtain ⟨o,ho⟩:=Option.isSome_iff_exists.1 hc.1
            exact .inl ⟨_,_,o,he,ho,hc.2,fun i e' hi ht hlt'=>ih i e' (by omega) hi ht⟩
          · refine .inr fun j e hj hje ht=>?_
            by_cases hjj:j=ents.length - (n + 1)
            · subst hjj
              rw [he] at hje; cases hje
              cases hs:sel (ents.length - (n + 1)) with
              | false=>rfl
              | true=>exact absurd ⟨ht,hs⟩ hc
            · exact ih j e (by omega) hje ht
        · exact .inr fun j e _=>ih j e (by omega)
  rcases aux ents.length with h | h
  · exact .inl h
  · exact .inr fun j e=>h j e (by omega)
/-! #### waiting -/
theorem allDeps_acc:∀ (l:List Oper) (acc:List (List Nat)) (j:Nat),j < acc.length→(allDeps l acc)[j]?=acc[j]?
  | [],acc,j,_=>rfl
  | o :: r,acc,j,h=>by
    simp only [allDeps]
    rw [allDeps_acc r _ j (by simp; omega),List.getElem?_append_left h]
theorem allDeps_listed (S : Nat → Prop) (ops : List Oper) (hS : ∀ i o, ops[i]? = some o → S i → ∀ j ∈ directDeps o, S j) : ∀ (l : List Oper) (acc : List (List Nat)), (∀ i, l[i]? = ops[acc.length + i]?) → (∀ i j, S i → j ∈ acc.getD i [] → S j) →
    ∀ i o,ops[i]?=some o→acc.length≤i→(∀ j∈directDeps o,S j)→∀ j∈(allDeps l acc).getD i [],S j
  | [],acc,hl,hacc,i,o,ho,hi,hd,j,hj=>by
    have:=hl (i - acc.length)
    rw [show acc.length + (i - acc.length)=i from by omega,ho] at this
    simp at this
  | o0 :: r, acc, hl, hacc, i, o, ho, hi, hd, j, hj => by
    simp only [allDeps] at hj
    have h0:ops[acc.length]?=some o0:=by have:=hl 0; simpa using this.symm
    have hnew:∀ i j,S i→j∈(acc ++ [closeDeps acc (directDeps o0) []]).getD i []→S j:=by
      intro i j hSi hj
      by_cases h1:i < acc.length
      · refine hacc i j hSi ?_
        simpa [List.getD_eq_getElem?_getD,List.getElem?_append_left h1] using hj
      · by_cases h2:i=acc.length
        · subst h2
          simp only [List.getD_eq_getElem?_getD,List.getElem?_append_right (Nat.le_refl _),Nat.sub_self,List.getElem?_cons_zero,Option.getD_some] at hj
          obtain ⟨x,hx,hj⟩:=(mem_closeDeps hj).resolve_left (by simp)
          have hSx:=hS _ _ h0 hSi x hx
          rcases hj with rfl | hj
          · exact hSx
          · exact hacc x j hSx (by simpa [List.getD_eq_getElem?_getD] using hj)
        · have:(acc ++ [closeDeps acc (directDeps o0) []])[i]?=none:=by simp; omega
          rw [List.getD_eq_getElem?_getD,this] at hj; simp at hj
    by_cases h1:i=acc.length
    · subst h1
      rw [h0] at ho; cases ho
      have:(allDeps r (acc ++ [closeDeps acc (directDeps o0) []]))[acc.length]?=some (closeDeps acc (directDeps o0) []):=by
        rw [allDeps_acc _ _ _ (by simp)]; simp
      rw [List.getD_eq_getElem?_getD,this] at hj
      simp only [Option.getD_some] at hj
      obtain ⟨x,hx,hj⟩:=(mem_closeDeps hj).resolve_left (by simp)
      rcases hj with rfl | hj
      · exact hd _ hx
      · exact hacc x j (hd x hx) (by simpa [List.getD_eq_getElem?_getD] using hj)
    · exact allDeps_listed S ops hS r _ (fun k=>by
        have:=hl (k + 1)
        simp only [List.getElem?_cons_succ,List.length_append,List.length_singleton] at this ⊢
        rw [this]; congr 1; omega) hnew i o ho (by simp; omega) hd j hj
end
end Go.Sim
namespace Go.Sim
open Go.RowKit
section
variable {P:Program} {Γ:TypeId→Option TI}
theorem mem_directDeps {o:Oper} {j:Nat}:j∈directDeps o↔∃ e∈o.after,Region.binds .any e=true∧e.on=j:=by
  simp only [directDeps,List.mem_filterMap,Array.mem_toList_iff]
  constructor
  · rintro ⟨e,he,h⟩
    split at h
    · rename_i hb; cases h; exact ⟨e,he,hb,rfl⟩
    · cases h
  · rintro ⟨e,he,hb,rfl⟩
    exact ⟨e,he,by rw [if_pos hb]⟩
theorem mem_ready' {ops:Array Oper} {listed:Array Bool} {i:Nat}:i∈Region.ready .any ops listed↔listed.getD i true=false∧∃ o,ops[i]?=some o∧∀ j∈directDeps o,listed.getD j false=true:=by
  rw [mem_ready]
  constructor
  · rintro ⟨h,o,ho,hall⟩
    refine ⟨h,o,ho,fun j hj=>?_⟩
    obtain ⟨e,he,hb,rfl⟩:=mem_directDeps.1 hj
    exact hall e he hb
  · rintro ⟨h,o,ho,hall⟩
    exact ⟨h,o,ho,fun e he hb=>hall _ (mem_directDeps.2 ⟨e,he,hb,rfl⟩)⟩
theorem distinct_filterMap:∀ {l:List Oper},distinct (l.filterMap (·.dst))=true→∀ (i j:Nat) (o o' : Oper) (d:Nat),l[i]?=some o→l[j]?=some o'→o.dst=some d→o'.dst=some d→i=j
  | [],_,i,j,o,o',d,hi,_,_,_=>by simp at hi
  | x :: l, h, i, j, o, o', d, hi, hj, hd, hd' => by
    have htail:distinct (l.filterMap (·.dst))=true:=by
      simp only [List.filterMap_cons] at h
      split at h
      · exact h
      · simp only [distinct,Bool.and_eq_true] at h; exact h.2
    have hhead:∀ (k:Nat) (o' : Oper) (d:Nat),x.dst=some d→l[k]?=some o'→o'.dst=some d→False:=by
      intro k o' d hx hk hd'
      simp only [List.filterMap_cons,hx,distinct,Bool.and_eq_true,Bool.not_eq_true',List.contains_eq_mem,decide_eq_false_iff_not] at h
      exact h.1 (List.mem_filterMap.2 ⟨o',List.mem_of_getElem? hk,hd'⟩)
    cases i with
    | zero =>
      simp at hi; subst hi
      cases j with
      | zero=>rfl
      | succ j=>exact (hhead j o' d hd (by simpa using hj) hd').elim
    | succ i =>
      cases j with
      | zero=>simp at hj; subst hj; exact (hhead i o d hd' (by simpa using hi) hd).elim
      | succ j=>rw [distinct_filterMap htail i j o o' d (by simpa using hi) (by simpa using hj) hd hd']
theorem badFrom_mem (deps : List (List Nat)) (k : Nat) : ∀ (l : List Oper) (b j : Nat) (o : Oper) (t : Nat), l[j]? = some o → o.dst = some t → ¬ (b + j = k ∨ (deps.getD k []).contains (b + j) ∨ (deps.getD (b + j) []).contains k) → t ∈ badFrom deps k b l
  | [],b,j,o,t,hj,_,_=>by simp at hj
  | x :: l, b, j, o, t, hj, hd, hn => by
    cases j with
    | zero =>
      simp at hj; subst hj
      simp only [Nat.add_zero] at hn
      simp only [badFrom,hd,if_neg hn,List.mem_cons,true_or]
    | succ j =>
      have ih:=badFrom_mem deps k l (b + 1) j o t (by simpa using hj) hd (by rw [show b + 1 + j=b + (j + 1) from by omega]; exact hn)
      simp only [badFrom]
      split
      · split
        · exact ih
        · exact List.mem_cons_of_mem _ ih
      · exact ih
def Fact (P : Program) (ops : List Oper) (deps : List (List Nat)) (eff : List (Nat × List Nat)) (s0 : St) (ents : List REnt) (i : Nat) : Prop :=
  ∃ o t e, ops[i]? = some o ∧ ents[i]? = some e ∧ e.dst = o.dst ∧ wantedA ops o (viewSt ops deps eff s0 i (ents.take i)) = some t ∧
    (t=true→QStep P o (viewSt ops deps eff s0 i (ents.take i)) e.r e.new)∧(t=false→(e.r = .dead∨e.r = .val undef)∧e.new=[])∧outOk eff i o (viewSt ops deps eff s0 i (ents.take i)) e.new
theorem WDraw.get {ops : List Oper} {deps : List (List Nat)} {eff : List (Nat × List Nat)} {s0 : St} {K : DrawK} : ∀ (n : Nat) (rest : List Oper) (k : Nat) (ents0 : List REnt), ents0.length = k → (∀ j, rest[j]? = ops[k + j]?) → WDraw P ops deps eff s0 K n rest k ents0 →
    ∃ ents,ents.length=k + n∧ents.take k=ents0∧(∀ i,k≤i→i < k + n→Fact P ops deps eff s0 ents i)∧K (ops.drop (k + n)) ents
  | 0,rest,k,ents0,hl,hr,h=>by
    refine ⟨ents0,by simp [hl],by rw [← hl]; exact List.take_length,fun i h1 h2=>by omega, ?_⟩
    have:rest=ops.drop (k + 0):=by
      refine List.ext_getElem? fun j=>?_
      rw [List.getElem?_drop,hr j]; rfl
    rw [← this]
    exact h
  | n + 1,[],k,ents0,hl,hr,h=>h.elim
  | n + 1, o :: rest, k, ents0, hl, hr, h => by
    obtain ⟨t,hw,h⟩:=h
    have ho:ops[k]?=some o:=by have:=hr 0; simpa using this.symm
    have hr' : ∀ j,rest[j]?=ops[k + 1 + j]?:=fun j=>by have:=hr (j + 1); rw [show k + 1 + j=k + (j + 1) from by omega]; simpa using this
    cases t with
    | true =>
      simp only [if_true] at h
      obtain ⟨r,new,hq,hnew,h⟩:=h
      obtain ⟨ents,g1,g2,g3,g4⟩:=WDraw.get n rest (k + 1) _ (by simp [hl]) hr' h
      have htk:ents.take k=ents0:=by
        have:=congrArg (List.take k) g2
        rw [List.take_take,Nat.min_eq_left (by omega),List.take_append_of_le_length (by omega),← hl,List.take_length] at this
        rw [← hl]; exact this
      have hek:ents[k]?=some ⟨o.dst,r,new⟩:=by
        have:=congrArg (fun l=>l[k]?) g2
        simp only [List.getElem?_take,Nat.lt_succ_self,if_true] at this
        rw [this,List.getElem?_append_right (by omega)]; simp [hl]
      refine ⟨ents,by omega,htk,fun i h1 h2=>?_,by rw [show k + (n + 1)=k + 1 + n from by omega]; exact g4⟩
      by_cases hik:i=k
      · subst hik
        exact ⟨o,true,_,ho,hek,rfl,by rw [htk]; exact hw,(fun _=>by rw [htk]; exact hq),(fun h=>by cases h),by rw [htk]; exact hnew⟩
      · exact g3 i (by omega) (by omega)
    | false =>
      simp only [Bool.false_eq_true,if_false] at h
      obtain ⟨y,hy,h⟩:=h
      obtain ⟨ents,g1,g2,g3,g4⟩:=WDraw.get n rest (k + 1) _ (by simp [hl]) hr' h
      have htk:ents.take k=ents0:=by
        have:=congrArg (List.take k) g2
        rw [List.take_take,Nat.min_eq_left (by omega),List.take_append_of_le_length (by omega),← hl,List.take_length] at this
        rw [← hl]; exact this
      have hek:ents[k]?=some ⟨o.dst,y,[]⟩:=by
        have:=congrArg (fun l=>l[k]?) g2
        simp only [List.getElem?_take,Nat.lt_succ_self,if_true] at this
        rw [this,List.getElem?_append_right (by omega)]; simp [hl]
      refine ⟨ents,by omega,htk,fun i h1 h2=>?_,by rw [show k + (n + 1)=k + 1 + n from by omega]; exact g4⟩
      by_cases hik:i=k
      · subst hik
        exact ⟨o,false,_,ho,hek,rfl,by rw [htk]; exact hw,(fun h=>by cases h),(fun _=>⟨hy,rfl⟩),(fun x hx=>by simp at hx)⟩
      · exact g3 i (by omega) (by omega)
theorem look_none_of {α:Type} {t:Nat} {l:List (Nat×α)} (h:∀ x∈l,x.1≠t):look t l=none:=by
  cases hl:look t l with
  | none=>rfl
  | some x=>exact absurd rfl (h _ (look_mem hl))
theorem mkSt_all:∀ (ents:List REnt) (s0:St) (k:Nat) (sel:Nat→Bool),(∀ j,j < ents.length→sel (k + j)=true)→mkSt sel k ents s0=mkSt (fun _=>true) k ents s0
  | [],s0,k,sel,_=>rfl
  | e :: r,s0,k,sel,h=>by
    have h0:=h 0 (by simp)
    rw [Nat.add_zero] at h0
    simp only [mkSt,h0,if_true]
    exact mkSt_all r _ (k + 1) sel (fun j hj=>by rw [show k + 1 + j=k + (j + 1) from by omega]; exact h (j + 1) (by simp; omega))
theorem mem_badObjs {deps:List (List Nat)} {k id:Nat}:∀ {eff:List (Nat×List Nat)} {j:Nat} {ids:List Nat},(j,ids)∈eff→id∈ids→¬ (j=k∨(deps.getD k []).contains j∨(deps.getD j []).contains k)→id∈badObjs deps k eff
  | (j',ids') :: r,j,ids,hm,hid,hn=>by
    simp only [badObjs]
    rcases List.mem_cons.1 hm with h | h
    · cases h; rw [if_neg hn]; exact List.mem_append_left _ hid
    · have:=mem_badObjs h hid hn
      split
      · exact this
      · exact List.mem_append_right _ this
def FactC (P : Program) (ops : List Oper) (deps : List (List Nat)) (eff : List (Nat × List Nat)) (s0 : St) (c : Nat) (ents : List REnt) (i : Nat) : Prop :=
  ∃ o t e, ops[i]? = some o ∧ ents[i]? = some e ∧ e.dst = o.dst ∧ wantedA ops o (viewSt ops deps eff s0 i (ents.take i)) = some t ∧
    (i≠c→t=true→QStep P o (viewSt ops deps eff s0 i (ents.take i)) e.r e.new)∧(i=c→t=true)∧(t=false→(e.r = .dead∨e.r = .val undef)∧e.new=[])∧outOk eff i o (viewSt ops deps eff s0 i (ents.take i)) e.new
theorem Fact.toC {P:Program} {ops:List Oper} {deps:List (List Nat)} {eff:List (Nat×List Nat)} {s0:St} {c:Nat} {ents:List REnt} {i:Nat} (h:Fact P ops deps eff s0 ents i) (hc:i≠c):FactC P ops deps eff s0 c ents i:=by
  obtain ⟨o,t,e,h1,h2,h3,h4,h5,h6,h7⟩:=h
  exact ⟨o,t,e,h1,h2,h3,h4,fun _=>h5,fun k=>absurd k hc,h6,h7⟩
theorem mkSt_congr : ∀ (l l' : List REnt) (sel : Nat → Bool) (k : Nat) (s : St), l.length = l'.length → (∀ j, j < l.length → sel (k + j) = true → l[j]? = l'[j]?) → mkSt sel k l s = mkSt sel k l' s
  | [],[],_,_,_,_,_=>rfl
  | [],_ :: _,_,_,_,h,_=>by simp at h
  | _ :: _,[],_,_,_,h,_=>by simp at h
  | e :: l, e' :: l', sel, k, s, h, hj => by
    simp only [mkSt]
    have e1:(if sel k=true then e.add s else s)=if sel k=true then e'.add s else s:=by
      cases hs:sel k with
      | false=>rfl
      | true =>
        have:=hj 0 (by simp) (by rw [Nat.add_zero]; exact hs)
        simp at this
        rw [this]
    rw [e1]
    exact mkSt_congr l l' sel (k + 1) _ (by simpa using h) fun j h1 h2=>by
      have:=hj (j + 1) (by simp; omega) (by rw [show k + (j + 1)=k + 1 + j by omega]; exact h2)
      simpa using this
set_option maxHeartbeats 4000000 in
theorem draw_soundZ {ζ:Type} (E:ζ→List REnt) (cz:Nat) (z0:ζ) {rd:Option Nat} {ops:Array Oper} {n:Nat} {st:St} {eff:List (Nat×List Nat)} {K:St→Prop} (heff:effOk ops.toList (allDeps ops.toList []) eff st.objs=true) (hok:drawOk ops.toList (allDeps ops.toList []) n st.nt=true) (hfo:freshOk ops.toList st.objs=true) (hn:n≤ops.size)
    (hlenZ:∀ z,(E z).length=n) (hfactZ:∀ z i,i < n→FactC P ops.toList (allDeps ops.toList []) eff st cz (E z) i)
    (hceZ:∀ z,cz < n→∀ o,ops[cz]?=some o→QStepE P o (viewSt ops.toList (allDeps ops.toList []) eff st cz ((E z).take cz)) fun r new=>∃ z',(E z')[cz]?=some ⟨o.dst,r,new⟩)
    (hindZ:∀ j z z',j < n→j≠cz→cz ∉ (allDeps ops.toList []).getD j []→(E z)[j]?=(E z')[j]?)
    (htailZ:∀ z,WOps P ops.toList K (ops.toList.drop n) (mkSt (fun _=>true) 0 (E z) st)) {a:Act} {w:World} {e:Env} (hc:Conc st a w e) {Q:Exit→Act→World→Prop}
    (hQ:∀ st' a' w' e',Conc st' a' w' e'→Fr w e w' e'→K st'→Q .normal a' w'):wpAnyIn (FR rd) 0 P .any ops Q ops.size (Array.replicate ops.size false) a w:=by
  simp only [drawOk,Bool.and_eq_true,List.all_eq_true,Bool.or_eq_true,decide_eq_true_eq,List.mem_range,Array.length_toList,List.contains_eq_mem] at hok
  obtain ⟨⟨⟨kb,kd⟩,kt⟩,ktail⟩:=hok
  have hback:∀ i o,ops[i]?=some o→∀ j∈directDeps o,j < i:=by
    intro i o ho j hj
    have hmem:(o,i)∈ops.toList.zipIdx:=by rw [List.mem_zipIdx_iff_getElem?]; simpa using ho
    exact kb (o,i) hmem j hj
  have hdeps_lt:∀ i,∀ j∈(allDeps ops.toList []).getD i [],i < ops.size→j < i:=by
    intro i j hj hi
    have ho:ops.toList[i]?=some ops[i]:=by simp [hi]
    exact allDeps_listed (fun x=>x < i) ops.toList (fun a o ho ha j hj=>by have:=hback a o (by simpa using ho) j hj; omega) ops.toList [] (fun k=>by simp) (fun a b _ hb=>by simp at hb) i _ ho (by simp)
      (fun j hj=>hback i _ (by simpa using ho) j hj) j hj
  have hdst:∀ o∈ops.toList,∀ d,o.dst=some d→d < st.nt:=by
    intro o ho d hd
    have:=kt o ho
    rw [hd] at this; simpa using this
  have hslotfree:∀ (o:Oper) (d id:Nat),o∈ops.toList→o.dst=some d→8 * d≤id→id < 8 * d + 8→look id st.objs=none:=by
    intro o d id ho hd g2 g3
    refine look_none_of fun x hx hid'=>?_
    simp only [freshOk,List.all_eq_true] at hfo
    have:=hfo x hx o ho
    rw [hd] at this
    rw [hid'] at this
    simp [g2,g3] at this
  have htrans:∀ i ids,(i,ids)∈eff→∀ k j m,j∈(allDeps ops.toList []).getD k []→m∈(allDeps ops.toList []).getD j []→m∈(allDeps ops.toList []).getD k []:=by
    intro i ids hi k j m hj hm
    simp only [effOk,List.all_eq_true,Bool.and_eq_true,List.contains_eq_mem,decide_eq_true_eq] at heff
    refine (heff _ hi).2 ((allDeps ops.toList []).getD k []) ?_ j hj m hm
    rw [List.getD_eq_getElem?_getD] at hj ⊢
    cases hk:(allDeps ops.toList [])[k]? with
    | none=>rw [hk] at hj; simp at hj
    | some l=>exact List.mem_of_getElem? hk
  have key:∀ (fuel:Nat) (listed:Array Bool) (a' : Act) (w' : World),listed.size=ops.size→((List.range ops.size).filter fun i=>!listed.getD i false).length≤fuel →
      (∀ i o,ops[i]?=some o→listed.getD i false=true→∀ j∈directDeps o,listed.getD j false=true) →
      (((∀ k,n≤k→listed.getD k false=false)∧∃ z e',Conc (mkSt (fun i=>listed.getD i false) 0 (E z) st) a' w' e'∧Fr w e w' e') ∨
        ∃ k,n≤k∧(∀ j,j < ops.size→listed.getD j false=decide (j < k))∧∃ s e',WOps P ops.toList K (ops.toList.drop k) s∧Conc s a' w' e'∧Fr w e w' e')→wpAnyIn (FR rd) 0 P .any ops Q fuel listed a' w':=by
    intro fuel
    induction fuel with
    | zero =>
      intro listed a' w' hsz hcount hcl hJ
      have hall:∀ i,i < ops.size→listed.getD i false=true:=by
        intro i hi
        cases hl:listed.getD i false with
        | true=>rfl
        | false =>
          have:i∈(List.range ops.size).filter fun i=>!listed.getD i false:=by simp [hi]; simpa using hl
          have:=List.length_pos_of_mem this
          omega
      refine ⟨?_, ?_⟩
      · refine List.eq_nil_iff_forall_not_mem.2 fun i hi=>?_
        obtain ⟨h1,o,ho,_⟩:=mem_ready'.1 hi
        have hlt:i < ops.size:=(Array.getElem?_eq_some_iff.1 ho).1
        have:=hall i hlt
        simp only [Array.getD_eq_getD_getElem?] at h1 this
        rw [Array.getElem?_eq_getElem (by omega)] at h1 this
        simp at h1 this
        rw [this] at h1; cases h1
      · rcases hJ with ⟨hnt,z,e',c1,f1⟩ | ⟨k,hk,hkl,s,e',hW,c1,f1⟩
        · have hnn:n=ops.size:=by
            rcases Nat.lt_or_ge n ops.size with h1 | h1
            · have:=hnt n (Nat.le_refl _); rw [hall n h1] at this; cases this
            · omega
          have hlen:=hlenZ z
          have htail:=htailZ z
          have hm:=mkSt_all (E z) st 0 (fun i=>listed.getD i false) (fun j hj=>by rw [Nat.zero_add]; exact hall j (by omega))
          rw [hm] at c1
          have:ops.toList.drop n=[]:=by rw [hnn]; simp
          rw [this] at htail
          exact hQ _ a' w' e' c1 f1 htail
        · have hkk:ops.size≤k:=by
            rcases Nat.lt_or_ge k ops.size with h1 | h1
            · have:=hkl k h1; rw [hall k h1] at this; simp at this
            · exact h1
          have:ops.toList.drop k=[]:=List.drop_eq_nil_of_le (by simpa using hkk)
          rw [this] at hW
          exact hQ s a' w' e' c1 f1 hW
    | succ fuel ih =>
      intro listed a' w' hsz hcount hcl hJ
      have hgd:∀ i,i < ops.size→listed.getD i true=listed.getD i false:=by
        intro i hi
        simp only [Array.getD_eq_getD_getElem?]
        rw [Array.getElem?_eq_getElem (by omega)]; rfl
      have hsetsz:∀ i,(listed.setIfInBounds i true).size=ops.size:=fun i=>by simp [hsz]
      have hsetget:∀ i j,i < ops.size→(listed.setIfInBounds i true).getD j false=if i=j then true else listed.getD j false:=by
        intro i j hi
        by_cases hij:i=j
        · subst hij; simp [hsz,hi]
        · rw [getD_set_ne false hij,if_neg hij]
      have hsetcount:∀ i,i < ops.size→listed.getD i false=false→((List.range ops.size).filter fun j=>!(listed.setIfInBounds i true).getD j false).length≤fuel:=by
        intro i hi hli
        have h1:(List.range ops.size).filter (fun j=>!(listed.setIfInBounds i true).getD j false)=((List.range ops.size).filter fun j=>!listed.getD j false).filter (fun j=>decide (j≠i)):=by
          rw [List.filter_filter]
          refine List.filter_congr fun j _=>?_
          rw [hsetget i j hi]
          by_cases hij:i=j
          · subst hij; simp
          · simp [hij,Ne.symm hij]
        have hmem:i∈(List.range ops.size).filter fun j=>!listed.getD j false:=by simp [hi]; simpa using hli
        have h2:(((List.range ops.size).filter fun j=>!listed.getD j false).filter (fun j=>decide (j≠i))).length < ((List.range ops.size).filter fun j=>!listed.getD j false).length:=by
          rw [List.length_filter_lt_length_iff_exists]
          exact ⟨i,hmem,by simp⟩
        rw [h1]; omega
      have hsetcl:∀ i o,ops[i]?=some o→(∀ j∈directDeps o,listed.getD j false=true)→∀ i' o',ops[i']?=some o'→(listed.setIfInBounds i true).getD i' false=true→∀ j∈directDeps o',(listed.setIfInBounds i true).getD j false=true:=by
        intro i o ho hd i' o' ho' hl' j hj
        have hi:i < ops.size:=(Array.getElem?_eq_some_iff.1 ho).1
        rw [hsetget i i' hi] at hl'
        rw [hsetget i j hi]
        by_cases hij:i=j
        · rw [if_pos hij]
        · rw [if_neg hij]
          by_cases hii:i=i'
          · subst hii; rw [ho] at ho'; cases ho'; exact hd j hj
          · rw [if_neg hii] at hl'; exact hcl i' o' ho' hl' j hj
      refine ⟨fun hnil=>?_,fun i hi=>?_⟩
      · -- nothing is ready: all is listed
        have hall:∀ i,i < ops.size→listed.getD i false=true:=by
          intro i
          induction i using Nat.strongRecOn with
          | _ i ihi =>
            intro hi
            cases hl:listed.getD i false with
            | true=>rfl
            | false =>
              exfalso
              have:i∈Region.ready .any ops listed:=mem_ready'.2 ⟨by rw [hgd i hi]; exact hl,ops[i],Array.getElem?_eq_getElem hi,fun j hj=>by
                have:=hback i _ (Array.getElem?_eq_getElem hi) j hj
                exact ihi j this (by omega)⟩
              rw [hnil] at this; simp at this
        rcases hJ with ⟨hnt,z,e',c1,f1⟩ | ⟨k,hk,hkl,s,e',hW,c1,f1⟩
        · have hnn:n=ops.size:=by
            rcases Nat.lt_or_ge n ops.size with h1 | h1
            · have:=hnt n (Nat.le_refl _); rw [hall n h1] at this; cases this
            · omega
          have hlen:=hlenZ z
          have htail:=htailZ z
          have hm:=mkSt_all (E z) st 0 (fun i=>listed.getD i false) (fun j hj=>by rw [Nat.zero_add]; exact hall j (by omega))
          rw [hm] at c1
          have:ops.toList.drop n=[]:=by rw [hnn]; simp
          rw [this] at htail
          exact hQ _ a' w' e' c1 f1 htail
        · have hkk:ops.size≤k:=by
            rcases Nat.lt_or_ge k ops.size with h1 | h1
            · have:=hkl k h1; rw [hall k h1] at this; simp at this
            · exact h1
          have:ops.toList.drop k=[]:=List.drop_eq_nil_of_le (by simpa using hkk)
          rw [this] at hW
          exact hQ s a' w' e' c1 f1 hW
      · obtain ⟨hli,o,ho,hdl⟩:=mem_ready'.1 hi
        have hilt:i < ops.size:=(Array.getElem?_eq_some_iff.1 ho).1
        rw [hgd i hilt] at hli
        have hDl:∀ j∈(allDeps ops.toList []).getD i [],listed.getD j false=true:=
          allDeps_listed (fun x=>listed.getD x false=true) ops.toList (fun a o ho ha j hj=>hcl a o (by simpa using ho) ha j hj) ops.toList [] (fun k=>by simp) (fun a b _ hb=>by simp at hb) i o (by simpa using ho) (by simp) hdl
        have tailstep:∀ k,n≤k→(∀ j,j < ops.size→listed.getD j false=decide (j < k))→∀ s e',WOps P ops.toList K (ops.toList.drop k) s→Conc s a' w' e'→Fr w e w' e'→wpOpIn (FR rd) 0 P ops Q i (wpAnyIn (FR rd) 0 P .any ops Q fuel (listed.setIfInBounds i true)) a' w':=by
          intro k hk hkl s e' hW c1 f1
          have hik:i=k:=by
            have h1:=hkl i hilt
            rw [hli] at h1
            have hki:k≤i:=by simpa using h1.symm
            rcases Nat.lt_or_ge k i with h2 | h2
            · exfalso
              have:=(ktail i hilt).resolve_left (by omega) k h2
              have h3:=hDl k this
              rw [hkl k (by omega)] at h3; simp at h3
            · omega
          subst hik
          have hdrop:ops.toList.drop i=o :: ops.toList.drop (i + 1):=by
            have:=List.drop_eq_getElem_cons (l:=ops.toList) (i:=i) (by simpa using hilt)
            rw [this]; congr 1
            have:ops[i]?=some ops[i]:=Array.getElem?_eq_getElem hilt
            rw [ho] at this; simpa using this.symm
          rw [hdrop] at hW
          obtain ⟨hdok,t,hw,hW⟩:=hW
          have hdd:∀ d,o.dst=some d→d < s.nt:=fun d hd'=>by simp only [dstOk,hd',decide_eq_true_eq] at hdok; exact hdok
          have hlisted:∀ j,j < ops.size→(listed.setIfInBounds i true).getD j false=decide (j < i + 1):=by
            intro j hj
            rw [hsetget i j hilt]
            by_cases hij:i=j
            · subst hij; simp
            · rw [if_neg hij,hkl j hj]; congr 1; simp; omega
          have next:∀ s2 a2 w2 e2,WOps P ops.toList K (ops.toList.drop (i + 1)) s2→Conc s2 a2 w2 e2→Fr w e w2 e2→wpAnyIn (FR rd) 0 P .any ops Q fuel (listed.setIfInBounds i true) a2 w2:=fun s2 a2 w2 e2 h1 h2 h3 =>
            ih _ a2 w2 (hsetsz i) (hsetcount i hilt hli) (hsetcl i o ho hdl) (.inr ⟨i + 1,by omega,hlisted,s2,e2,h1,h2,h3⟩)
          simp only [wpOpIn,ho]
          rw [wantedA_ok hw c1.view]
          cases t with
          | true =>
            simp only [if_true] at hW ⊢
            exact (hW rd a' w' e' c1 _ _ fun r st' v w2 e2 hK' hc2 hf2 hr2=>next _ _ _ e2 hK' (hc2.put hr2 (fun d hd'=>by rw [← hc2.size,c1.size]; exact hdd d hd')) (f1.trans hf2))
          | false =>
            simp only [Bool.false_eq_true,if_false] at hW ⊢
            obtain ⟨y,hy,hW⟩:=hW
            exact ⟨fun _ _=>trivial,next _ _ _ e' hW (c1.put (v:=undef) (by rcases hy with rfl | rfl; exact .dead _; exact .data (.val _)) hdd) f1⟩
        rcases hJ with ⟨hnt,z,e',c1,f1⟩ | ⟨k,hk,hkl,s,e',hW,c1,f1⟩
        · rcases Nat.lt_or_ge i n with hin | hin
          · -- a head step
            have hnotin:∀ j,listed.getD j false=true→i ∉ (allDeps ops.toList []).getD j []:=by
              intro j hj hij
              have hjlt:j < ops.size:=by
                rcases Nat.lt_or_ge j ops.size with h1 | h1
                · exact h1
                · simp [Array.getD_eq_getD_getElem?,Array.getElem?_eq_none (show listed.size≤j by omega)] at hj
              have:=allDeps_listed (fun x=>listed.getD x false=true) ops.toList (fun a o ho ha j hj=>hcl a o (by simpa using ho) ha j hj) ops.toList [] (fun k=>by simp) (fun a b _ hb=>by simp at hb) j ops[j] (by simp [hjlt]) (by simp)
                (hcl j _ (Array.getElem?_eq_getElem hjlt) hj) i hij
              rw [hli] at this; cases this
            have main : ∀ (z : ζ) (e' : Env), Conc (mkSt (fun i => listed.getD i false) 0 (E z) st) a' w' e' → Fr w e w' e' → ∃ t en, (E z)[i]? = some en ∧ en.dst = o.dst ∧ wantedA ops.toList o (viewSt ops.toList (allDeps ops.toList []) eff st i ((E z).take i)) = some t ∧
                (i≠cz→t=true→QStep P o (viewSt ops.toList (allDeps ops.toList []) eff st i ((E z).take i)) en.r en.new)∧(i=cz→t=true)∧(t=false→(en.r = .dead∨en.r = .val undef)∧en.new=[])∧Sub (viewSt ops.toList (allDeps ops.toList []) eff st i ((E z).take i)) (mkSt (fun i=>listed.getD i false) 0 (E z) st) ∧
                (∀ x∈en.new,(look x.1 ((viewSt ops.toList (allDeps ops.toList []) eff st i ((E z).take i))).objs).isSome=true∨look x.1 (mkSt (fun i=>listed.getD i false) 0 (E z) st).objs=none) ∧
                (∀ (a2:Act) (w2:World) (e2:Env) (v:Value),Conc { mkSt (fun i=>listed.getD i false) 0 (E z) st with objs:=en.new ++ (mkSt (fun i=>listed.getD i false) 0 (E z) st).objs } a2 w2 e2→Fr w e w2 e2→Rd w2 e2 en.r v→wpAnyIn (FR rd) 0 P .any ops Q fuel (listed.setIfInBounds i true) (a2.put o.dst v) w2):=by
              intro z e' c1 f1
              obtain ⟨ents,hE⟩:∃ l,l=E z:=⟨_,rfl⟩
              have hlen:ents.length=n:=by rw [hE]; exact hlenZ z
              have hfact:∀ i,i < n→FactC P ops.toList (allDeps ops.toList []) eff st cz ents i:=by rw [hE]; exact hfactZ z
              rw [← hE] at c1 ⊢
              have hentdst:∀ i,i < n→∃ o en,ops[i]?=some o∧ents[i]?=some en∧en.dst=o.dst:=by
                intro i hi
                obtain ⟨o,t,en,h1,h2,h3,_⟩:=hfact i hi
                exact ⟨o,en,by simpa using h1,h2,h3⟩
              have huniq:∀ (i j:Nat) (ei ej:REnt) (d:Nat),ents[i]?=some ei→ents[j]?=some ej→ei.dst=some d→ej.dst=some d→i=j:=by
                intro i j ei ej d hi hj hdi hdj
                have hi' : i < n:=by rw [← hlen]; exact (List.getElem?_eq_some_iff.1 hi).1
                have hj' : j < n:=by rw [← hlen]; exact (List.getElem?_eq_some_iff.1 hj).1
                obtain ⟨oi,ei',a1,a2,a3⟩:=hentdst i hi'
                obtain ⟨oj,ej',b1,b2,b3⟩:=hentdst j hj'
                rw [hi] at a2; cases a2
                rw [hj] at b2; cases b2
                exact distinct_filterMap kd i j oi oj d (by simpa using a1) (by simpa using b1) (by rw [← a3]; exact hdi) (by rw [← b3]; exact hdj)
              have htouch:∀ (i:Nat) (ei:REnt) (id:Nat),ents[i]?=some ei→(look id ei.new).isSome=true→(∃ d:Nat,ei.dst=some d∧8 * d≤id∧id < 8 * d + 8∧look id st.objs=none)∨((∃ ids,(i,ids)∈eff∧id∈ids)∧((look id st.objs).isSome=true∨∃ (c:Nat) (oc:Oper) (dc:Nat),c∈(allDeps ops.toList []).getD i []∧ops.toList[c]?=some oc∧oc.dst=some dc∧8 * dc≤id∧id < 8 * dc + 8)∧(look id (viewSt ops.toList (allDeps ops.toList []) eff st i (ents.take i)).objs).isSome=true):=by
                intro i ei id hi hid
                have hi' : i < n:=by rw [← hlen]; exact (List.getElem?_eq_some_iff.1 hi).1
                obtain ⟨o,t,en,h1,h2,h3,_,_,_,_,h7⟩:=hfact i hi'
                rw [hi] at h2; cases h2
                obtain ⟨x,hx⟩:=Option.isSome_iff_exists.1 hid
                rcases h7 _ (look_mem hx) with ⟨d,g1,g2,g3⟩ | ⟨g1,ids,g2,g3⟩
                · exact .inl ⟨d,by rw [h3]; exact g1,g2,g3,hslotfree o d id (List.mem_of_getElem? h1) g1 g2 g3⟩
                · refine .inr ⟨⟨ids,g2,g3⟩, ?_,g1⟩
                  simp only [effOk,List.all_eq_true,Bool.and_eq_true,Bool.or_eq_true] at heff
                  rcases (heff _ g2).1.1 id g3 with h8 | h8
                  · exact .inl h8
                  · obtain ⟨c,c1,c2⟩:=List.any_eq_true.1 h8
                    split at c2
                    · rename_i oc hoc
                      obtain ⟨dc,c3,c4⟩:=slotHas_iff.1 c2
                      exact .inr ⟨c,oc,dc,c1,hoc,c3,c4⟩
                    · cases c2
              have hcreat:∀ (i:Nat) (ei:REnt) (id d:Nat),ents[i]?=some ei→ei.dst=some d→8 * d≤id→id < 8 * d + 8→∀ (c:Nat) (oc:Oper) (dc:Nat),ops.toList[c]?=some oc→oc.dst=some dc→8 * dc≤id→id < 8 * dc + 8→c=i:=by
                intro i ei id d hi hd h1 h2 c oc dc hc hdc h3 h4
                have hi' : i < n:=by rw [← hlen]; exact (List.getElem?_eq_some_iff.1 hi).1
                obtain ⟨oi,ei',a1,a2,a3⟩:=hentdst i hi'
                rw [hi] at a2; cases a2
                have hdd:d=dc:=by omega
                subst hdd
                exact distinct_filterMap kd c i oc oi d hc (by simpa using a1) hdc (by rw [← a3]; exact hd)
              have hdeps_ltn:∀ i j,i < n→j∈(allDeps ops.toList []).getD i []→j < i:=fun i j hi hj=>hdeps_lt i j hj (by omega)
              have hord:∀ (i j:Nat) (ei ej:REnt) (id:Nat),ents[i]?=some ei→ents[j]?=some ej→(look id ei.new).isSome=true→(look id ej.new).isSome=true→i=j∨i∈(allDeps ops.toList []).getD j []∨j∈(allDeps ops.toList []).getD i []:=by
                intro i j ei ej id hi hj hdi hdj
                rcases htouch i ei id hi hdi with ⟨d1,g1,g2,g3,g4⟩ | ⟨⟨ids,g1,g2⟩,g3,_⟩ <;> rcases htouch j ej id hj hdj with ⟨d2,k1,k2,k3,k4⟩ | ⟨⟨ids',k1,k2⟩,k3,_⟩
                · have:d1=d2:=by omega
                  subst this
                  exact .inl (huniq i j ei ej d1 hi hj g1 k1)
                · rcases k3 with k3 | ⟨c,oc,dc,c1,c2,c3,c4,c5⟩
                  · rw [g4] at k3; cases k3
                  · have:=hcreat i ei id d1 hi g1 g2 g3 c oc dc c2 c3 c4 c5
                    subst this; exact .inr (.inl c1)
                · rcases g3 with g3 | ⟨c,oc,dc,c1,c2,c3,c4,c5⟩
                  · rw [k4] at g3; cases g3
                  · have:=hcreat j ej id d2 hj k1 k2 k3 c oc dc c2 c3 c4 c5
                    subst this; exact .inr (.inr c1)
                · simp only [effOk,List.all_eq_true,Bool.and_eq_true,Bool.or_eq_true,beq_iff_eq,Bool.not_eq_true',List.contains_eq_mem,decide_eq_true_eq] at heff
                  have:=(heff _ g1).1.2 _ k1
                  simp only at this
                  rcases this with ((h1 | h1) | h1) | h1
                  · exact .inl h1
                  · have h2:ids.any ids'.contains=true:=List.any_eq_true.2 ⟨id,g2,by simpa using k2⟩
                    rw [h2] at h1; cases h1
                  · exact .inr (.inl h1)
                  · exact .inr (.inr h1)
              obtain ⟨o',t,en,g1,g2,g3,g4,g5,g5b,g6,g7⟩:=hfact i hin
              have : o' = o := by have h1 : ops.toList[i]? = some o := by simpa using ho
                                  rw [h1] at g1; cases g1; rfl
              subst this
              have hsub : Sub (viewSt ops.toList (allDeps ops.toList []) eff st i (ents.take i)) (mkSt (fun i => listed.getD i false) 0 ents st) := by
                have hte:∀ j (ej:REnt),(ents.take i)[j]?=some ej→j < i∧ents[j]?=some ej:=fun j ej hj=>by
                  rw [List.getElem?_take] at hj
                  split at hj
                  · rename_i h1; exact ⟨h1,hj⟩
                  · cases hj
                refine ⟨fun t x hx=>?_,fun id ob hob=>?_⟩
                · by_cases hex:∃ j ej,(ents.take i)[j]?=some ej∧ej.dst=some t∧((allDeps ops.toList []).getD i []).contains j=true
                  · obtain ⟨j,ej,h1,h2,h3⟩:=hex
                    obtain ⟨h1a,h1b⟩:=hte j ej h1
                    have e1:=mkSt_tmp_some (fun x=>((allDeps ops.toList []).getD i []).contains x) t (ents.take i) 0 { st with tmps:=dels (badFrom (allDeps ops.toList []) i 0 ops.toList) st.tmps } j ej (fun i' e' hi' hd'=>huniq i' j e' ej t (hte i' e' hi').2 h1b hd' h2) h1 h2 (by rw [Nat.zero_add]; exact h3)
                    have e2:=mkSt_tmp_some (fun i=>listed.getD i false) t ents 0 st j ej (fun i' e' hi' hd'=>huniq i' j e' ej t hi' h1b hd' h2) h1b h2 (by rw [Nat.zero_add]; exact hDl j (by simpa using h3))
                    rw [show look t (viewSt ops.toList (allDeps ops.toList []) eff st i (ents.take i)).tmps=some ej.r from e1] at hx
                    cases hx; exact e2
                  · have e1 := mkSt_tmp_none (fun x => ((allDeps ops.toList []).getD i []).contains x) t (ents.take i) 0 { st with tmps := dels (badFrom (allDeps ops.toList []) i 0 ops.toList) st.tmps } (fun j ej hj hd => by
                      rw [Nat.zero_add]
                      cases hcn:((allDeps ops.toList []).getD i []).contains j with
                      | false=>rfl
                      | true=>exact absurd ⟨j,ej,hj,hd,hcn⟩ hex)
                    rw [show look t (viewSt ops.toList (allDeps ops.toList []) eff st i (ents.take i)).tmps=look t (dels (badFrom (allDeps ops.toList []) i 0 ops.toList) st.tmps) from e1,look_dels] at hx
                    split at hx
                    · cases hx
                    · rename_i hbad
                      rw [mkSt_tmp_none (fun i=>listed.getD i false) t ents 0 st (fun j ej hj hd=>by
                        rw [Nat.zero_add]
                        cases hlj:listed.getD j false with
                        | false=>rfl
                        | true =>
                          exfalso
                          have hjn:j < n:=by rw [← hlen]; exact (List.getElem?_eq_some_iff.1 hj).1
                          obtain ⟨oj,ej',b1,b2,b3⟩:=hentdst j hjn
                          rw [hj] at b2; cases b2
                          refine hbad (badFrom_mem _ i ops.toList 0 j oj t (by simpa using b1) (by rw [← b3]; exact hd) ?_)
                          rw [Nat.zero_add]
                          rintro (h1 | h1 | h1)
                          · rw [h1,hli] at hlj; cases hlj
                          · have hji:j < i:=hdeps_lt i j (by simpa using h1) hilt
                            exact hex ⟨j,ej,by rw [List.getElem?_take,if_pos hji]; exact hj,hd,h1⟩
                          · exact hnotin j hlj (by simpa using h1))]
                      exact hx
                · have hob' : look id (delAll (badObjs (allDeps ops.toList []) i eff) (mkSt (fun x => ((allDeps ops.toList []).getD i []).contains x) 0 (ents.take i) { st with tmps := dels (badFrom (allDeps ops.toList []) i 0 ops.toList) st.tmps }).objs) = some ob := hob
                  rw [look_delAll] at hob'
                  split at hob'
                  · cases hob'
                  · rename_i hnbad
                    have hwait:∀ j ej,ents[j]?=some ej→(look id ej.new).isSome=true→listed.getD j false=true→(∃ j' ej',(ents.take i)[j']?=some ej'∧(look id ej'.new).isSome=true∧j'∈(allDeps ops.toList []).getD i [])∨look id st.objs≠none→j∈(allDeps ops.toList []).getD i []:=by
                      intro j ej hj hd hlj hsome
                      have hjn:j < n:=by rw [← hlen]; exact (List.getElem?_eq_some_iff.1 hj).1
                      by_cases hun:j=i∨((allDeps ops.toList []).getD i []).contains j∨((allDeps ops.toList []).getD j []).contains i
                      · rcases hun with h1 | h1 | h1
                        · rw [h1,hli] at hlj; cases hlj
                        · simpa using h1
                        · exact absurd (by simpa using h1) (hnotin j hlj)
                      · exfalso
                        rcases htouch j ej id hj hd with ⟨d,kdj,k2,k3,k4⟩ | ⟨⟨ids,k1,k2⟩,_,_⟩
                        · rcases hsome with ⟨j',ej',q1,q2,q3⟩ | hs
                          · rcases hord j j' ej ej' id hj (hte j' ej' q1).2 hd q2 with h1 | h1 | h1
                            · subst h1; exact hun (.inr (.inl (by simpa using q3)))
                            · rcases htouch j' ej' id (hte j' ej' q1).2 q2 with ⟨d',m1,m2,m3,m4⟩ | ⟨⟨ids',m0,_⟩,_,_⟩
                              · have hdd:d=d':=by omega
                                subst hdd
                                have:=huniq j j' ej ej' d hj (hte j' ej' q1).2 kdj m1
                                subst this; exact hun (.inr (.inl (by simpa using q3)))
                              · exact hun (.inr (.inl (by simpa using htrans j' ids' m0 i j' j q3 h1)))
                            · rcases htouch j' ej' id (hte j' ej' q1).2 q2 with ⟨d',m1,m2,m3,m4⟩ | ⟨_,m3,_⟩
                              · have hdd:d=d':=by omega
                                subst hdd
                                have:=huniq j j' ej ej' d hj (hte j' ej' q1).2 kdj m1
                                subst this; exact hun (.inr (.inl (by simpa using q3)))
                              · rcases m3 with m3 | ⟨c,oc,dc,c1,c2,c3,c4,c5⟩
                                · rw [k4] at m3; cases m3
                                · have:=hcreat j ej id d hj kdj k2 k3 c oc dc c2 c3 c4 c5
                                  subst this
                                  have hj'n:j' < n:=by rw [← hlen]; exact (List.getElem?_eq_some_iff.1 (hte j' ej' q1).2).1
                                  have l1:=hdeps_ltn j' c hj'n c1
                                  have l2:=hdeps_ltn c j' hjn h1
                                  omega
                          · exact hs k4
                        · exact hnbad (mem_badObjs k1 k2 hun)
                    rcases last_touch (fun x=>((allDeps ops.toList []).getD i []).contains x) id (ents.take i) with ⟨j,ej,o2,h1,h2,h3,h4⟩ | hnone
                    · have e1:=mkSt_obj_some (fun x=>((allDeps ops.toList []).getD i []).contains x) id o2 (ents.take i) 0 { st with tmps:=dels (badFrom (allDeps ops.toList []) i 0 ops.toList) st.tmps } j ej (fun i' e' hi' hd' hlt=>by rw [Nat.zero_add]; exact h4 i' e' hi' hd' hlt) h1 h2 (by rw [Nat.zero_add]; exact h3)
                      rw [e1] at hob'; cases hob'
                      refine mkSt_obj_some (fun i=>listed.getD i false) id ob ents 0 st j ej (fun i' e' hi' hd' hlt=>?_) (hte j ej h1).2 h2 (by rw [Nat.zero_add]; exact hDl j (by simpa using h3))
                      rw [Nat.zero_add]
                      cases hl' : listed.getD i' false with
                      | false=>rfl
                      | true =>
                        have hw:=hwait i' e' hi' hd' hl' (.inl ⟨j,ej,h1,by rw [h2]; rfl,by simpa using h3⟩)
                        have hlt':=hdeps_lt i i' hw hilt
                        have:=h4 i' e' (by rw [List.getElem?_take,if_pos hlt']; exact hi') hd' hlt
                        simp only [List.contains_eq_mem,decide_eq_false_iff_not] at this
                        exact absurd hw this
                    · rw [mkSt_obj_none (fun x=>((allDeps ops.toList []).getD i []).contains x) id (ents.take i) 0 _ (fun j ej hj hd=>by rw [Nat.zero_add]; exact hnone j ej hj hd)] at hob'
                      rw [mkSt_obj_none (fun i=>listed.getD i false) id ents 0 st (fun j ej hj hd=>by
                        rw [Nat.zero_add]
                        cases hl' : listed.getD j false with
                        | false=>rfl
                        | true =>
                          have hw:=hwait j ej hj hd hl' (.inr (by rw [show look id st.objs=some ob from hob']; simp))
                          have:=hnone j ej (by rw [List.getElem?_take,if_pos (hdeps_lt i j hw hilt)]; exact hj) hd
                          simp only [List.contains_eq_mem,decide_eq_false_iff_not] at this
                          exact absurd hw this)]
                      exact hob'
              have hfreshi:∀ x∈en.new,(look x.1 (viewSt ops.toList (allDeps ops.toList []) eff st i (ents.take i)).objs).isSome=true∨look x.1 (mkSt (fun i=>listed.getD i false) 0 ents st).objs=none:=by
                intro x hx
                have hxs:(look x.1 en.new).isSome=true:=look_some_mem.2 ⟨x.2,hx⟩
                rcases htouch i en x.1 g2 hxs with ⟨d,k1,k2,k3,k4⟩ | ⟨_,_,k4⟩
                · refine .inr ?_
                  rw [mkSt_obj_none (fun i=>listed.getD i false) x.1 ents 0 st (fun j ej hj hd=>by
                    rw [Nat.zero_add]
                    rcases htouch j ej x.1 hj hd with ⟨d',m1,m2,m3,m4⟩ | ⟨_,m3,_⟩
                    · have hdd:d=d':=by omega
                      subst hdd
                      rw [huniq j i ej en d hj g2 m1 k1]; exact hli
                    · rcases m3 with m3 | ⟨c,oc,dc,c1,c2,c3,c4,c5⟩
                      · rw [k4] at m3; cases m3
                      · have:=hcreat i en x.1 d g2 k1 k2 k3 c oc dc c2 c3 c4 c5
                        subst this
                        cases hlj:listed.getD j false with
                        | false=>rfl
                        | true=>exact absurd c1 (hnotin j hlj))]
                  exact k4
                · exact .inl k4
              have hnext:∀ (a2:Act) (w2:World) (e2:Env) (v:Value),Conc { mkSt (fun i=>listed.getD i false) 0 ents st with objs:=en.new ++ (mkSt (fun i=>listed.getD i false) 0 ents st).objs } a2 w2 e2→Fr w e w2 e2→Rd w2 e2 en.r v→wpAnyIn (FR rd) 0 P .any ops Q fuel (listed.setIfInBounds i true) (a2.put o'.dst v) w2:=by
                intro a2 w2 e2 v hc2 hf2 hr2
                refine ih _ _ w2 (hsetsz i) (hsetcount i hilt hli) (hsetcl i o' ho hdl) (.inl ⟨fun k hk=>?_,z,e2, ?_,hf2⟩)
                · rw [hsetget i k hilt,if_neg (by omega)]; exact hnt k hk
                · rw [← hE]
                  have hput:=hc2.put (dst:=o'.dst) hr2 (fun d hd=>by
                    have:=hdst o' (by rw [Array.mem_toList_iff]; exact Array.mem_of_getElem? ho) d hd
                    simpa [mkSt_nt] using this)
                  refine hput.congr (fun t=>?_) (fun id=>?_) ?_
                  · by_cases hti:en.dst=some t
                    · rw [mkSt_tmp_some (fun j=>(listed.setIfInBounds i true).getD j false) t ents 0 st i en (fun i' e' hi' hd'=>huniq i' i e' en t hi' g2 hd' hti) g2 hti (by rw [Nat.zero_add,hsetget i i hilt]; simp)]
                      rw [← g3,hti]
                      simp [St.put,look_upd]
                    · have hput2:look t ({ mkSt (fun i=>listed.getD i false) 0 ents st with objs:=en.new ++ (mkSt (fun i=>listed.getD i false) 0 ents st).objs }.put o'.dst en.r:St).tmps=look t (mkSt (fun i=>listed.getD i false) 0 ents st).tmps:=by
                        rw [← g3]
                        cases hd:en.dst with
                        | none=>rfl
                        | some d =>
                          simp only [St.put,look_upd]
                          rw [if_neg (by intro hdt; subst hdt; exact hti hd)]
                      rw [hput2]
                      by_cases hex:∃ j ej,ents[j]?=some ej∧ej.dst=some t∧listed.getD j false=true
                      · obtain ⟨j,ej,h1,h2,h3⟩:=hex
                        rw [mkSt_tmp_some (fun j=>(listed.setIfInBounds i true).getD j false) t ents 0 st j ej (fun i' e' hi' hd'=>huniq i' j e' ej t hi' h1 hd' h2) h1 h2 (by rw [Nat.zero_add,hsetget i j hilt]; exact (if hij:i=j then (if_pos hij).trans rfl else (if_neg hij).trans h3)),
                          mkSt_tmp_some (fun j=>listed.getD j false) t ents 0 st j ej (fun i' e' hi' hd'=>huniq i' j e' ej t hi' h1 hd' h2) h1 h2 (by rw [Nat.zero_add]; exact h3)]
                      · rw [mkSt_tmp_none (fun j=>(listed.setIfInBounds i true).getD j false) t ents 0 st (fun j ej hj hd=>by
                            rw [Nat.zero_add,hsetget i j hilt]
                            by_cases hij:i=j
                            · subst hij; rw [g2] at hj; cases hj; exact absurd hd hti
                            · rw [if_neg hij]
                              cases hlj:listed.getD j false with
                              | false=>rfl
                              | true=>exact absurd ⟨j,ej,hj,hd,hlj⟩ hex),
                          mkSt_tmp_none (fun j=>listed.getD j false) t ents 0 st (fun j ej hj hd=>by
                            rw [Nat.zero_add]
                            cases hlj:listed.getD j false with
                            | false=>rfl
                            | true=>exact absurd ⟨j,ej,hj,hd,hlj⟩ hex)]
                  · have hput2:look id ({ mkSt (fun i=>listed.getD i false) 0 ents st with objs:=en.new ++ (mkSt (fun i=>listed.getD i false) 0 ents st).objs }.put o'.dst en.r:St).objs=look id (en.new ++ (mkSt (fun i=>listed.getD i false) 0 ents st).objs):=by
                      cases o'.dst <;> rfl
                    rw [hput2,look_append]
                    cases hin' : look id en.new with
                    | some ob =>
                      simp only
                      refine (mkSt_obj_some (fun j=>(listed.setIfInBounds i true).getD j false) id ob ents 0 st i en (fun i' e' hi' hd' hlt=>?_) g2 hin' (by rw [Nat.zero_add,hsetget i i hilt]; simp))
                      rw [Nat.zero_add,hsetget i i' hilt,if_neg (by omega)]
                      cases hl' : listed.getD i' false with
                      | false=>rfl
                      | true =>
                        exfalso
                        rcases hord i i' en e' id g2 hi' (by rw [hin']; rfl) hd' with h1 | h1 | h1
                        · omega
                        · exact hnotin i' hl' h1
                        · have:=hdeps_lt i i' h1 hilt; omega
                    | none =>
                      simp only
                      rcases last_touch (fun j=>listed.getD j false) id ents with ⟨j,ej,o2,h1,h2,h3,h4⟩ | hnone
                      · have hji:j≠i:=by intro hji; subst hji; rw [g2] at h1; cases h1; rw [hin'] at h2; cases h2
                        rw [mkSt_obj_some (fun j=>listed.getD j false) id o2 ents 0 st j ej (fun i' e' hi' hd' hlt=>by rw [Nat.zero_add]; exact h4 i' e' hi' hd' hlt) h1 h2 (by rw [Nat.zero_add]; exact h3)]
                        refine (mkSt_obj_some (fun j=>(listed.setIfInBounds i true).getD j false) id o2 ents 0 st j ej (fun i' e' hi' hd' hlt=>?_) h1 h2 (by rw [Nat.zero_add,hsetget i j hilt,if_neg (Ne.symm hji)]; exact h3))
                        rw [Nat.zero_add,hsetget i i' hilt]
                        rw [if_neg (by intro hii; subst hii; rw [g2] at hi'; cases hi'; rw [hin'] at hd'; cases hd')]
                        exact h4 i' e' hi' hd' hlt
                      · rw [mkSt_obj_none (fun j=>listed.getD j false) id ents 0 st (fun j ej hj hd=>by rw [Nat.zero_add]; exact hnone j ej hj hd)]
                        refine (mkSt_obj_none (fun j=>(listed.setIfInBounds i true).getD j false) id ents 0 st (fun j ej hj hd=>?_))
                        rw [Nat.zero_add,hsetget i j hilt]
                        rw [if_neg (by intro hii; subst hii; rw [g2] at hj; cases hj; rw [hin'] at hd; cases hd)]
                        exact hnone j ej hj hd
                  · rw [put_nt]; simp [mkSt_nt]
              exact ⟨t,en,g2,g3,g4,g5,g5b,g6,hsub,hfreshi,hnext⟩
            obtain ⟨t,en,g2,g3,g4,g5,g5b,g6,hsub,hfreshi,hnext⟩:=main z e' c1 f1
            simp only [wpOpIn,ho]
            rw [wantedA_ok g4 (hsub.view c1)]
            by_cases hic:i=cz
            · subst hic
              have ht:=g5b rfl
              subst ht
              simp only [if_true]
              have heq:∀ z',mkSt (fun i=>listed.getD i false) 0 (E z') st=mkSt (fun i=>listed.getD i false) 0 (E z) st:=fun z'=>by
                refine mkSt_congr _ _ _ 0 st (by rw [hlenZ,hlenZ]) fun j hj hs=>?_
                rw [Nat.zero_add] at hs
                refine hindZ j z' z (by rw [← hlenZ z']; exact hj) (fun e=>by rw [e,hli] at hs; cases hs) (hnotin j hs)
              have hview:∀ z',viewSt ops.toList (allDeps ops.toList []) eff st i ((E z').take i)=viewSt ops.toList (allDeps ops.toList []) eff st i ((E z).take i):=fun z'=>by
                unfold viewSt
                rw [mkSt_congr ((E z').take i) ((E z).take i) _ 0 _ (by rw [List.length_take,List.length_take,hlenZ,hlenZ]) fun j hj hs=>?_]
                rw [Nat.zero_add] at hs
                have hjd:j∈(allDeps ops.toList []).getD i []:=by simpa using hs
                have hji:=hdeps_lt i j hjd hilt
                rw [List.getElem?_take,List.getElem?_take,if_pos hji,if_pos hji]
                exact hindZ j z' z (by omega) (by omega) fun hk=>by
                  have:=hdeps_lt j i hk (by omega)
                  omega
              refine hceZ z hin o ho _ rd a' w' e' c1 hsub ?_ _ _ ?_
              · rintro r new ⟨z',hz'⟩ x hx
                obtain ⟨t',en',k2,_,_,_,_,_,_,k8,_⟩:=main z' e' (by rw [heq z']; exact c1) f1
                rw [hz'] at k2; cases k2
                have:=k8 x hx
                rwa [hview z',heq z'] at this
              · rintro r new ⟨z',hz'⟩ v w2 e2 q1 q2 q3
                obtain ⟨t',en',k2,_,_,_,_,_,_,_,k9⟩:=main z' e' (by rw [heq z']; exact c1) f1
                rw [hz'] at k2; cases k2
                exact k9 a' w2 e2 v (by rw [heq z']; exact q1) (f1.trans q2) q3
            cases t with
            | true =>
              simp only [if_true]
              exact (g5 hic rfl _ rd a' w' e' c1 hsub hfreshi _ _ fun v w2 e2 h1 h2 h3=>hnext a' w2 e2 v h1 (f1.trans h2) h3)
            | false =>
              simp only [Bool.false_eq_true,if_false]
              obtain ⟨q1,q2⟩:=g6 rfl
              refine ⟨fun _ _=>trivial,hnext a' w' e' undef ?_ f1 (by rcases q1 with q1 | q1 <;> rw [q1]; exact .dead _; exact .data (.val _))⟩
              rw [q2]; simpa using c1
          · -- the tail begins
            have hnl:∀ j,j < ops.size→listed.getD j false=decide (j < n):=by
              intro j hj
              by_cases hjn:j < n
              · have hni:n=i:=by
                  rcases Nat.lt_or_ge n i with h2 | h2
                  · exfalso
                    have:=(ktail i hilt).resolve_left (by omega) n h2
                    have h3:=hDl n this
                    rw [hnt n (Nat.le_refl _)] at h3; cases h3
                  · omega
                have:=(ktail i hilt).resolve_left (by omega) j (by omega)
                rw [hDl j this]; simp [hjn]
              · rw [hnt j (by omega)]; simp [hjn]
            have hlen:=hlenZ z
            have hm:=mkSt_all (E z) st 0 (fun i=>listed.getD i false) (fun j hj=>by rw [Nat.zero_add,hnl j (by omega)]; simp; omega)
            rw [hm] at c1
            exact tailstep n (Nat.le_refl _) hnl _ e' (htailZ z) c1 f1
        · exact tailstep k hk hkl s e' hW c1 f1
  refine key ops.size (Array.replicate ops.size false) a w (by simp) ?_ (fun i o ho hl=>?_) (.inl ⟨fun k _=>?_,z0,e, ?_,Fr.refl w e⟩)
  · exact Nat.le_trans (List.length_filter_le _ _) (by simp)
  · exfalso
    have:i < ops.size:=(Array.getElem?_eq_some_iff.1 ho).1
    simp [this] at hl
  · by_cases hk:k < ops.size <;> simp [hk]
  · have hnone:∀ i,(Array.replicate ops.size false).getD i false=false:=fun i=>by
      by_cases hk:i < ops.size <;> simp [hk]
    refine hc.congr (fun t=>mkSt_tmp_none _ t (E z0) 0 st fun j ej _ _=>hnone _) (fun id=>mkSt_obj_none _ id (E z0) 0 st fun j ej _ _=>hnone _) (mkSt_nt _ _ _ _)
theorem draw_sound {rd:Option Nat} {ops:Array Oper} {n:Nat} {st:St} {eff:List (Nat×List Nat)} {K:St→Prop} (heff:effOk ops.toList (allDeps ops.toList []) eff st.objs=true) (hok:drawOk ops.toList (allDeps ops.toList []) n st.nt=true) (hfo:freshOk ops.toList st.objs=true) (hn:n≤ops.size)
    (h:WDraw P ops.toList (allDeps ops.toList []) eff st (drawK P ops.toList st K) n ops.toList 0 []) {a:Act} {w:World} {e:Env} (hc:Conc st a w e) {Q:Exit→Act→World→Prop}
    (hQ:∀ st' a' w' e',Conc st' a' w' e'→Fr w e w' e'→K st'→Q .normal a' w'):wpAnyIn (FR rd) 0 P .any ops Q ops.size (Array.replicate ops.size false) a w:=by
  obtain ⟨ents,hlen,_,hfact,htail⟩:=WDraw.get (P:=P) n ops.toList 0 [] rfl (fun j=>by simp) h
  simp only [Nat.zero_add] at hlen hfact htail
  exact draw_soundZ (fun _:Unit=>ents) n () heff hok hfo hn (fun _=>hlen) (fun _ i hi=>(hfact i (Nat.zero_le _) hi).toC (by omega)) (fun _ h=>absurd h (Nat.lt_irrefl _)) (fun _ _ _ _ _ _=>rfl) (fun _=>htail) hc hQ
theorem Conc.drew {st:St} {a:Act} {w:World} {e:Env} (h:Conc st a w e):Conc st a w.drew e∧Fr w e w.drew e:=by
  have hf:Fr w e w.drew e:=⟨rfl,rfl,rfl,Nat.le_refl _,fun _ _ _=>rfl,fun _ ho _=>ho,rfl,.refl e⟩
  exact ⟨⟨⟨h.sim.dom,h.sim.inj,fun id o m ho hm=>(h.sim.obj id o m ho hm).fr hf (fun _ _=>rfl) (fun _ _=>rfl),h.sim.prok,h.sim.new⟩,h.defers.fr hf,h.size,fun t x hx=>let ⟨v,hv,hr⟩:=h.tmp t x hx; ⟨v,hv,hr.fr hf fun _ _=>rfl⟩⟩,hf⟩
theorem W.draw [M:Mode] (hm:P.follows .mixedOrders=true) {id:Nat} {ops:Array Oper} {st:St} {Q:Exit→St→Prop} (n:Nat) (eff:List (Nat×List Nat)) (hok:(drawOk ops.toList (allDeps ops.toList []) n st.nt && freshOk ops.toList st.objs && decide (n≤ops.size))=true)
    (heff:effOk ops.toList (allDeps ops.toList []) eff st.objs=true) (h:WDraw P ops.toList (allDeps ops.toList []) eff st (drawK P ops.toList st (Q .normal)) n ops.toList 0 []):W P (.region id ops true) st Q:=by
  simp only [Bool.and_eq_true,decide_eq_true_eq] at hok
  intro rd a w e hc
  refine wpIn_region_any hm ?_
  obtain ⟨c1,f1⟩:=hc.drew
  exact draw_sound heff hok.1.1 hok.1.2 hok.2 h c1 fun st' a' w' e' h1 h2 h3=>⟨st',e',h1,f1.trans h2,h3⟩
theorem Fact.congr {ops:List Oper} {deps:List (List Nat)} {eff:List (Nat×List Nat)} {s0:St} {l l' : List REnt} {i:Nat} (h:Fact P ops deps eff s0 l i) (h1:l'[i]?=l[i]?) (h2:l'.take i=l.take i):Fact P ops deps eff s0 l' i:=by
  obtain ⟨o,t,e,k1,k2,k3,k4,k5,k6,k7⟩:=h
  exact ⟨o,t,e,k1,by rw [h1]; exact k2,k3,by rw [h2]; exact k4,by rw [h2]; exact k5,k6,by rw [h2]; exact k7⟩
end
end Go.Sim
namespace Go.Sim
abbrev I (n:Int):AV:=.val (.int .i64 n)
abbrev B (b:Bool):AV:=.val (.bool b)
theorem W.seqk [M:Mode] {P:Program} {x y:Code} {st:St} {Q:Exit→St→Prop} (h:∀ K:St→Prop,(∀ s,W P y s Q→K s)→W P x st (thenQ K Q)):W P (.seq x y) st Q:=W.seq (h _ fun _ h=>h)
attribute [simp] runSeg wantedA evalAll evalP0 evalW0 evalP evalW mapT lookupA lenM keySh keyZ keyV sameSh fitsKey wfI64 getM setM delM sameKey St.makeMap St.mapSet St.mapDel isWrite sliceS St.ev St.glob St.at look upd del mapV St.put dstOk St.enter enumA slotId lenA binA binB nilIfA intBin strBin unA convA indexA arrIndexA loadA loadCellsA isAggD fieldAddrA elemD AV.cells sliceA sliceR AV.oneV boundA lowA
  AV.vals eqVals nilQ St.box St.renew Obj.map AV.kill AV.mapTop AV.mapCells AV.men AV.menL AV.fit AV.one Value.oneCell' zeroA unp AV.isData AV.isDataL St.toData1 St.toDataL St.toDataE St.toDataEs St.buildSlice isSeq St.freeze St.turn AV.frz
  St.makeSlice AV.setCells setSeg St.storeAt St.srcA St.appendA buildA placesA fillA zeroCellsA minA St.snap1 St.snapL St.snap St.snaps St.callee St.bound St.calleeC backOk freeNews looseOk looseTm AV.free AV.freeL Obj.free AV.named AV.namedL Obj.named psOk St.objsFor newIds delAll outName St.killIds St.adopt atSlot AV.ren AV.renL resultA resultsL resultsA
  findOld expName expObjs Obj.ren distinct expOk holdsT thenQ blockQ noGotoQ EndQ
end Go.Sim
namespace Go.Sim
open Go.RowKit
section
variable {P:Program} {Γ:TypeId→Option TI}
theorem WOps.go (hΓ:TOk P Γ) {ops:List Oper} {K:St→Prop} {l l' : List Oper} {st st' : St} {r:List Oper×St} (hr:runSeg Γ ops l st=r) (hr' : r=(l',st')) (h:WOps P ops K l' st'):WOps P ops K l st:=
  WOps.seg hΓ (by rw [hr,hr']; exact h)
theorem W.go [M:Mode] (hΓ:TOk P Γ) {id:Nat} {ops:Array Oper} {st st' : St} {Q:Exit→St→Prop} {r:List Oper×St} (hr:runSeg Γ ops.toList ops.toList st=r) (hr' : r=([],st')) (h:Q .normal st'):W P (.region id ops false) st Q:=
  W.region (WOps.go hΓ hr hr' h)
theorem WOps.done {ops:List Oper} {K:St→Prop} {st:St} (h:K st):WOps P ops K [] st:=h
theorem W.seqR [M:Mode] {id:Nat} {ops:Array Oper} {y:Code} {st:St} {Q:Exit→St→Prop} (h:WOps P ops.toList (fun s=>W P y s Q) ops.toList st):W P (.seq (.region id ops false) y) st Q:=W.seq (W.region h)
theorem noGotoQ_r {Q:Exit→St→Prop} {st:St} (h:Q .ret st):noGotoQ Q .ret st:=h
theorem thenQ_e {K:St→Prop} {Q:Exit→St→Prop} {st:St} {id:Nat} (h:Q (.exit id) st):thenQ K Q (.exit id) st:=h
theorem thenQ_r {K:St→Prop} {Q:Exit→St→Prop} {st:St} (h:Q .ret st):thenQ K Q .ret st:=h
theorem blockQ_n {id:Nat} {Q:Exit→St→Prop} {st:St} (h:Q .normal st):blockQ id Q .normal st:=h
theorem blockQ_r {id:Nat} {Q:Exit→St→Prop} {st:St} (h:Q .ret st):blockQ id Q .ret st:=h
theorem blockQ_s {id:Nat} {Q:Exit→St→Prop} {st:St} (h:Q .normal st):blockQ id Q (.exit id) st:=by simp [blockQ,h]
theorem blockQ_d {id id' : Nat} {Q:Exit→St→Prop} {st:St} (hd:(id' == id)=false) (h:Q (.exit id') st):blockQ id Q (.exit id') st:=by
  have:id'≠id:=by simpa using hd
  simp [blockQ,this,h]
theorem W.ite [M:Mode] {c:Operand} {x y:Code} {st:St} {t:Bool} {Q:Exit→St→Prop} (hv:st.ev c = .val (.bool t)) (h1:t=true→W P x st Q) (h2:t=false→W P y st Q):W P (.cond c x y) st Q:=by
  refine W.cond hv ?_
  cases t with
  | true=>exact h1 rfl
  | false=>exact h2 rfl
theorem Le.to {s:St} {tm:List (Nat×AV)} {objs:List (Nat×Obj)} {nt:Nat} (hn:s.nt=nt) (ho:s.objs=objs) (h:holdsT s.tmps tm):Le s ⟨nt,tm,objs⟩:=by
  subst hn; subst ho
  exact Le.less tm (holdsT_look h)
theorem W.loopS [M:Mode] {α:Type} {c:Code} {st:St} {Q:Exit→St→Prop} (S:α→St) (I:α→Prop) (μ:α→Nat) (x0:α) (h0:Le st (S x0)) (hI:I x0)
    (round:∀ x,I x→W P c (S x) (thenQ (fun s'=>∃ y,Le s' (S y)∧I y∧μ y < μ x) Q)):W P (.loop c) st Q:=
  W.loop (fun n s=>∃ x,s=S x∧I x∧μ x=n) (μ x0) ⟨_,h0,x0,rfl,hI,rfl⟩ (by
    rintro n s ⟨x,rfl,hx,rfl⟩
    refine (round x hx).mono fun ex s' hs=>?_
    cases ex with
    | normal=>obtain ⟨y,h1,h2,h3⟩:=hs; exact ⟨μ y,S y,h3,h1,y,rfl,h2,rfl⟩
    | _=>exact hs)
theorem Rd.imm_len {w:World} {e:Env} {l:List AV} {v:Value} (h:Rd w e (.imm l) v):l.length≤maxLen:=by
  cases h with
  | data h=>cases h with
    | imm0=>simp
    | imm _ b off cap sz vals hne hz hq hlen=>exact hlen
theorem ACalls.len {f:FuncId} {args:List AV} {objs:List (Nat×Obj)} {R:AV→List (Nat×Obj)→Prop} {l:List AV} (hm:AV.imm l∈args) (hf:Callable P f) (h:l.length≤maxLen→ACalls P f args objs R):ACalls P f args objs R:=by
  refine ⟨hf,fun w e vals h1 h2 h3=>?_⟩
  obtain ⟨i,hi⟩:=List.mem_iff_getElem?.1 hm
  have hlt:i < vals.size:=by rw [h2]; exact (List.getElem?_eq_some_iff.1 hi).1
  exact (h (h3 i _ vals[i] hi (Array.getElem?_eq_getElem hlt)).imm_len).run w e vals h1 h2 h3
theorem Le.objs {s:St} {tm:List (Nat×AV)} {objs:List (Nat×Obj)} {nt:Nat} (hn:s.nt=nt) (ho:∀ id,look id s.objs=look id objs) (h:holdsT s.tmps tm):Le s ⟨nt,tm,objs⟩:=by
  subst hn
  intro a w e hc
  exact ⟨e,(hc.less tm (holdsT_look h)).congr (fun _=>rfl) (fun id=>(ho id).symm) rfl,Fr.refl w e⟩
theorem W.len [M:Mode] {c:Code} {st:St} {Q:Exit→St→Prop} {l:List AV} (t:Nat) (hl:look t st.tmps=some (.imm l)) (h:l.length≤maxLen→W P c st Q):W P c st Q:=by
  intro rd a w e hc
  obtain ⟨v,_,hr⟩:=hc.tmp t _ hl
  exact h hr.imm_len rd a w e hc
end
theorem wrap_i64 {n:Int} (h1 : -9223372036854775808≤n) (h2:n < 9223372036854775808):IntKind.i64.wrap n=n:=by
  have e1:(2:Int) ^ IntKind.i64.bits=18446744073709551616:=by decide
  have e2:(2:Int) ^ (IntKind.i64.bits - 1)=9223372036854775808:=by decide
  have e3:IntKind.i64.signed=true:=rfl
  simp only [IntKind.wrap,e1,e2,e3,Bool.true_and,decide_eq_true_eq]
  split <;> omega
theorem mul_i64 {a b:Int} (h1 : -9223372036854775808≤a * b) (h2:a * b < 9223372036854775808):mulI .i64 a b=a * b:=by rw [mulI_eq,wrap_i64 h1 h2]
theorem maxLen_val:maxLen=9223372036854775807:=rfl
end Go.Sim
namespace Go.Sim
open Go.RowKit
section
variable {P:Program} {Γ:TypeId→Option TI}
noncomputable def evalQ (Γ:TypeId→Option TI) (o:Oper) (st:St):Option (AV×List (Nat×Obj)):=
  match isWrite o with
  | true=>evalN Γ o st
  | false=>match evalP Γ o st with
    | some r=>some (r,[])
    | none=>none
def newIn (o:Oper) (v:St):List (Nat×Obj)→Bool
  | []=>true
  | x :: r=>(match o.dst with | some d=>decide (8 * (d:Nat)≤x.1) && decide (x.1 < 8 * (d:Nat) + 8) | none=>false) && (look x.1 v.objs).isNone && newIn o v r
def outIn (eff:List Nat) (o:Oper) (v:St):List (Nat×Obj)→Bool
  | []=>true
  | x :: r=>((match o.dst with | some d=>decide (8 * (d:Nat)≤x.1) && decide (x.1 < 8 * (d:Nat) + 8) | none=>false) || ((look x.1 v.objs).isSome && eff.contains x.1)) && outIn eff o v r
theorem newIn_all {o : Oper} {v : St} : ∀ {l : List (Nat × Obj)}, newIn o v l = true → ∀ x ∈ l, (∃ d : Nat, o.dst = some d ∧ 8 * d ≤ x.1 ∧ x.1 < 8 * d + 8) ∧ look x.1 v.objs = none
  | [],_,x,hx=>by simp at hx
  | y :: r, h, x, hx => by
    simp only [newIn,Bool.and_eq_true,Option.isNone_iff_eq_none] at h
    rcases List.mem_cons.1 hx with rfl | hx
    · cases hd:o.dst with
      | none=>rw [hd] at h; simp at h
      | some d =>
        rw [hd] at h
        simp only [Bool.and_eq_true,decide_eq_true_eq] at h
        exact ⟨⟨d,rfl,h.1.1.1,h.1.1.2⟩,h.1.2⟩
    · exact newIn_all h.2 x hx
theorem outIn_all {k : Nat} {ids : List Nat} {eff : List (Nat × List Nat)} (hk : ids = [] ∨ (k, ids) ∈ eff) {o : Oper} {v : St} : ∀ {l : List (Nat × Obj)}, outIn ids o v l = true → outOk eff k o v l
  | [],_,x,hx=>by simp at hx
  | y :: r, h, x, hx => by
    simp only [outIn,Bool.and_eq_true,Bool.or_eq_true,List.contains_eq_mem,decide_eq_true_eq] at h
    rcases List.mem_cons.1 hx with rfl | hx
    · rcases h.1 with h1 | h1
      · cases hd:o.dst with
        | none=>rw [hd] at h1; simp at h1
        | some d =>
          rw [hd] at h1
          simp only [Bool.and_eq_true,decide_eq_true_eq] at h1
          exact .inl ⟨d,rfl,h1.1,h1.2⟩
      · refine .inr ⟨h1.1,ids, ?_,h1.2⟩
        rcases hk with rfl | hk
        · simp at h1
        · exact hk
    · exact outIn_all hk h.2 x hx
theorem evalQ_ok (hΓ:TOk P Γ) {o:Oper} {st:St} {r:AV} {new:List (Nat×Obj)} (h:evalQ Γ o st=some (r,new)) (hn:newIn o st new=true):QStep P o st r new:=by
  unfold evalQ at h
  split at h
  · exact QStep.ofN hΓ h fun x hx=>(newIn_all hn x hx).2
  · split at h
    · rename_i r' hr
      cases h
      exact QStep.pure hΓ hr
    · cases h
noncomputable def drawSeg (Γ:TypeId→Option TI) (ops:List Oper) (deps:List (List Nat)) (eff:List (Nat×List Nat)) (s0:St):Nat→List Oper→Nat→List REnt→Nat×List Oper×Nat×List REnt
  | 0,rest,k,ents=>(0,rest,k,ents)
  | n + 1,[],k,ents=>(n + 1,[],k,ents)
  | n + 1, o :: rest, k, ents => match wantedA ops o (viewSt ops deps eff s0 k ents) with
    | some true=>match evalQ Γ o (viewSt ops deps eff s0 k ents) with
      | some (r,new)=>match newIn o (viewSt ops deps eff s0 k ents) new with
        | true=>drawSeg Γ ops deps eff s0 n rest (k + 1) (ents ++ [⟨o.dst,r,new⟩])
        | false=>(n + 1,o :: rest,k,ents)
      | none=>(n + 1,o :: rest,k,ents)
    | some false=>drawSeg Γ ops deps eff s0 n rest (k + 1) (ents ++ [⟨o.dst,.dead,[]⟩])
    | none=>(n + 1,o :: rest,k,ents)
theorem WDraw.seg (hΓ : TOk P Γ) {ops : List Oper} {deps : List (List Nat)} {eff : List (Nat × List Nat)} {s0 : St} {K : DrawK} : ∀ {n : Nat} {rest : List Oper} {k : Nat} {ents : List REnt},
    WDraw P ops deps eff s0 K (drawSeg Γ ops deps eff s0 n rest k ents).1 (drawSeg Γ ops deps eff s0 n rest k ents).2.1 (drawSeg Γ ops deps eff s0 n rest k ents).2.2.1 (drawSeg Γ ops deps eff s0 n rest k ents).2.2.2→WDraw P ops deps eff s0 K n rest k ents
  | 0,rest,k,ents,h=>h
  | n + 1,[],k,ents,h=>h
  | n + 1, o :: rest, k, ents, h => by
    simp only [drawSeg] at h
    split at h
    · rename_i hw
      split at h
      · rename_i r new hq
        split at h
        · rename_i hn
          exact ⟨true,hw,by simp only [if_true]; exact ⟨r,new,evalQ_ok hΓ hq hn,fun x hx=>.inl (newIn_all hn x hx).1,WDraw.seg hΓ h⟩⟩
        · exact h
      · exact h
    · rename_i hw
      exact ⟨false,hw,by simp only [Bool.false_eq_true,if_false]; exact ⟨_,.inl rfl,WDraw.seg hΓ h⟩⟩
    · exact h
theorem WDraw.go (hΓ:TOk P Γ) {ops:List Oper} {deps:List (List Nat)} {eff:List (Nat×List Nat)} {s0:St} {K:DrawK} {n n' : Nat} {rest rest' : List Oper} {k k' : Nat} {ents ents' : List REnt} {r:Nat×List Oper×Nat×List REnt}
    (hr:drawSeg Γ ops deps eff s0 n rest k ents=r) (hr' : r=(n',rest',k',ents')) (h:WDraw P ops deps eff s0 K n' rest' k' ents'):WDraw P ops deps eff s0 K n rest k ents:=
  WDraw.seg hΓ (by rw [hr,hr']; exact h)
theorem WDraw.done {ops:List Oper} {deps:List (List Nat)} {eff:List (Nat×List Nat)} {s0 s1:St} {K:St→Prop} {rest:List Oper} {k:Nat} {ents:List REnt} (hs:mkSt (fun _=>true) 0 ents s0=s1) (h:WOps P ops K rest s1):WDraw P ops deps eff s0 (drawK P ops s0 K) 0 rest k ents:=by
  subst hs; exact h
theorem WDraw.call {ops:List Oper} {deps:List (List Nat)} {eff:List (Nat×List Nat)} {s0:St} {K:DrawK} {n:Nat} {rest:List Oper} {k:Nat} {ents:List REnt} {o:Oper} (hw:wantedA ops o (viewSt ops deps eff s0 k ents)=some true)
    {f:Operand} {args:Array Operand} {tys:Array TypeId} (ho:o.op = .call { callee:=.value f,args,argTypes:=tys }) {v:St} (hv:viewSt ops deps eff s0 k ents=v) {g:FuncId} {caps:List AV} (hf:v.callee f=some (g,caps)) (ps:List (Nat×Nat)) (hps:psOk ps=true) {ys:List AV} {b:Bool}
    (hsn:v.snaps ps (v.bound f ++ args.toList.map v.ev ++ caps)=some (ys,b)) {os:List (Nat×Obj)} (hos:v.objsFor ps ps=some os) {r0:AV} {n0:List (Nat×Obj)} (hc:ACalls P g ys os (fun r objs=>r=r0∧objs=n0)) {d:Nat} (hd:o.dst=some d)
    (hd2:(decide (d < 1250) && backOk ps d n0 && freeNews b r0 n0 && (ps.all fun x=>(look x.1 n0).isSome) && (newIds d n0).all fun id=>(look id v.objs).isNone)=true)
    {r1:AV} (hr1:r0.ren (outName ps d)=r1) {n1:List (Nat×Obj)} (hn1:(n0.map fun x=>(outName ps d x.1,x.2.ren (outName ps d)))=n1) (hin:outIn (ps.map (·.2)) o v n1=true) (hk:ps.map (·.2)=[]∨(k,ps.map (·.2))∈eff)
    (h:WDraw P ops deps eff s0 K n rest (k + 1) (ents ++ [⟨o.dst,r1,n1⟩])):WDraw P ops deps eff s0 K (n + 1) (o :: rest) k ents:=by
  subst hr1; subst hn1; subst hv
  simp only [Bool.and_eq_true,decide_eq_true_eq] at hd2
  obtain ⟨⟨⟨⟨q1,q2⟩,q3⟩,q4⟩,q5⟩:=hd2
  exact ⟨true,hw,by simp only [if_true]; exact ⟨_,_,QStep.call ho hf hps hsn hos hc q1 ⟨q2,q3⟩ q4 q5,outIn_all hk hin,h⟩⟩
theorem W.drawS [M:Mode] (hm:P.follows .mixedOrders=true) {id:Nat} {ops:Array Oper} {st:St} {Q:Exit→St→Prop} (n:Nat) (eff:List (Nat×List Nat)) {deps:List (List Nat)} (hdeps:allDeps ops.toList []=deps)
    (hok:(drawOk ops.toList (allDeps ops.toList []) n st.nt && freshOk ops.toList st.objs && decide (n≤ops.size) && effOk ops.toList (allDeps ops.toList []) eff st.objs)=true)
    (h:WDraw P ops.toList deps eff st (drawK P ops.toList st (Q .normal)) n ops.toList 0 []):W P (.region id ops true) st Q:=by
  subst hdeps
  rw [Bool.and_eq_true] at hok
  exact W.draw hm n eff hok.1 hok.2 h
theorem W.drawG [M:Mode] (hΓ:TOk P Γ) (hm:P.follows .mixedOrders=true) {id:Nat} {ops:Array Oper} {st:St} {Q:Exit→St→Prop} (n:Nat) {deps:List (List Nat)} (hdeps:allDeps ops.toList []=deps)
    (hok:(drawOk ops.toList (allDeps ops.toList []) n st.nt && freshOk ops.toList st.objs && decide (n≤ops.size) && effOk ops.toList (allDeps ops.toList []) [] st.objs)=true) {r:Nat×List Oper×Nat×List REnt} (hr:drawSeg Γ ops.toList deps [] st n ops.toList 0 []=r)
    {rest:List Oper} {k:Nat} {ents:List REnt} (hr' : r=(0,rest,k,ents)) {s1:St} (hs:mkSt (fun _=>true) 0 ents st=s1) {q:List Oper×St} (hq:runSeg Γ ops.toList rest s1=q) {s2:St} (hq' : q=([],s2)) (h:Q .normal s2):W P (.region id ops true) st Q:=
  W.drawS hm n [] hdeps hok (WDraw.go hΓ hr hr' (WDraw.done hs (WOps.go hΓ hq hq' h)))
end
attribute [simp] evalQ newIn outIn drawSeg viewSt badObjs mkSt REnt.add dels badFrom allDeps closeDeps mergeN directDeps freshOk Region.binds evalN
end Go.Sim
namespace Go.Sim
open Go.RowKit
section
variable {P:Program} {Γ:TypeId→Option TI}
/-! ### states kept small -/
def selT (tm : List (Nat × AV)) : List Nat → List (Nat × AV)
  | []=>[]
  | t :: r=>match look t tm with
    | some x=>(t,x) :: selT tm r
    | none=>selT tm r
def St.keep (s:St) (l:List Nat):St:={ s with tmps:=selT s.tmps l }
theorem look_selT {tm:List (Nat×AV)} {t:Nat} {x:AV}:∀ {l:List Nat},look t (selT tm l)=some x→look t tm=some x
  | u :: r, h => by
    simp only [selT] at h
    split at h
    · rename_i y hy
      simp only [look] at h
      split at h
      · rename_i hu; subst hu; cases h; exact hy
      · exact look_selT h
    · exact look_selT h
theorem Le.keep {s:St} (l:List Nat):Le s (s.keep l):=Le.less _ fun _ _ h=>look_selT h
theorem W.norm [M:Mode] {c:Code} {st st' : St} {Q:Exit→St→Prop} (h:st=st') (k:W P c st' Q):W P c st Q:=by subst h; exact k
theorem W.keep [M:Mode] {c:Code} {st st' : St} {Q:Exit→St→Prop} (l:List Nat) (h:st.keep l=st') (k:W P c st' Q):W P c st Q:=by subst h; exact W.weaken (Le.keep l) k
noncomputable def runK (Γ:TypeId→Option TI) (L:List Nat) (ops:List Oper) (st:St):Option St:=
  match runSeg Γ ops ops st with
  | ([],s)=>some (s.keep L)
  | _=>none
theorem W.regK [M:Mode] (hΓ:TOk P Γ) (L:List Nat) {id:Nat} {ops:Array Oper} {y:Code} {st st' : St} {Q:Exit→St→Prop} (hr:runK Γ L ops.toList st=some st') (h:W P y st' Q):W P (.seq (.region id ops false) y) st Q:=by
  unfold runK at hr
  split at hr
  · rename_i s hs
    cases hr
    exact W.seq (W.region (WOps.go hΓ hs rfl (W.weaken (Le.keep L) h)))
  · cases hr
noncomputable def runL (Γ:TypeId→Option TI) (ops:List Oper) (st:St):Option St:=
  match runSeg Γ ops ops st with
  | ([],s)=>some s
  | _=>none
theorem W.regE [M:Mode] (hΓ:TOk P Γ) {id:Nat} {ops:Array Oper} {st st' : St} {Q:Exit→St→Prop} (hr:runL Γ ops.toList st=some st') (h:Q .normal st'):W P (.region id ops false) st Q:=by
  unfold runL at hr
  split at hr
  · rename_i s hs
    cases hr
    exact W.region (WOps.go hΓ hs rfl h)
  · cases hr
/-! ### so many operations -/
noncomputable def runN (Γ:TypeId→Option TI) (ops:List Oper):Nat→List Oper→St→Option (List Oper×St)
  | 0,l,st=>some (l,st)
  | _ + 1,[],_=>none
  | n + 1, o :: r, st => match wantedA ops o st with
    | some true=>match evalAll Γ o st with
      | some (x,st')=>match dstOk o st with
        | true=>runN Γ ops n r (st'.put o.dst x)
        | false=>none
      | none=>none
    | some false=>match dstOk o st with
      | true=>runN Γ ops n r (st.put o.dst .dead)
      | false=>none
    | none=>none
theorem WOps.nN (hΓ : TOk P Γ) {ops : List Oper} {K : St → Prop} : ∀ {n : Nat} {l l' : List Oper} {st st' : St}, runN Γ ops n l st = some (l', st') → WOps P ops K l' st' → WOps P ops K l st
  | 0,l,l',st,st',hr,h=>by cases hr; exact h
  | n + 1,[],l',st,st',hr,h=>by cases hr
  | n + 1, o :: r, l', st, st', hr, h => by
    simp only [runN] at hr
    split at hr
    · rename_i hw
      split at hr
      · rename_i x s1 hev
        split at hr
        · rename_i hd
          exact ⟨hd,true,hw,WOp.eval hΓ hev (WOps.nN hΓ hr h)⟩
        · cases hr
      · cases hr
    · rename_i hw
      split at hr
      · rename_i hd
        exact ⟨hd,false,hw,_,.inl rfl,WOps.nN hΓ hr h⟩
      · cases hr
    · cases hr
theorem WOps.n (hΓ:TOk P Γ) (n:Nat) {ops:List Oper} {K:St→Prop} {l l' : List Oper} {st st' : St} {q:Option (List Oper×St)} (hr:runN Γ ops n l st=q) (hq:q=some (l',st')) (h:WOps P ops K l' st'):WOps P ops K l st:=WOps.nN hΓ (hr.trans hq) h
def guardD (ops : List Oper) (o : Oper) : Option (Nat × Bool) :=
  match o.guard with
  | none=>none
  | some (g,b)=>match (ops[g]?).bind (·.dst) with
    | some d=>some (d,b)
    | none=>none
theorem wantedOf {ops:List Oper} {o:Oper} {st:St} {d:Nat} {b t' : Bool} {u:Value} (h1:guardD ops o=some (d,b)) (h2:st.at d = .val u) (h3:isB b u=t'):wantedA ops o st=some t':=by
  unfold guardD at h1
  unfold wantedA
  split at h1
  · cases h1
  · rename_i g b' hg
    split at h1
    · rename_i d' hd
      cases h1
      (try rw [hg])
      simp only [hd,h2,h3]
    · cases h1
theorem WOps.opT (hΓ:TOk P Γ) {ops rest:List Oper} {K:St→Prop} {o:Oper} {st st' s2:St} {r:AV} (hw:wantedA ops o st=some true) (hd:dstOk o st=true) (hev:evalAll Γ o st=some (r,st')) (hs:st'.put o.dst r=s2) (h:WOps P ops K rest s2):WOps P ops K (o :: rest) st:=by
  subst hs; exact ⟨hd,true,hw,by simp only [if_true]; exact WOp.eval hΓ hev h⟩
theorem WDraw.opT (hΓ:TOk P Γ) {ops rest:List Oper} {deps:List (List Nat)} {eff:List (Nat×List Nat)} {s0 v:St} {K:DrawK} {n k:Nat} {ents ents' : List REnt} {o:Oper} {r:AV} {new:List (Nat×Obj)} (hv:viewSt ops deps eff s0 k ents=v) (hw:wantedA ops o v=some true) (he:evalQ Γ o v=some (r,new)) (hn:newIn o v new=true)
    (hs:ents ++ [⟨o.dst,r,new⟩]=ents') (h:WDraw P ops deps eff s0 K n rest (k + 1) ents'):WDraw P ops deps eff s0 K (n + 1) (o :: rest) k ents:=by
  subst hv; subst hs
  exact ⟨true,hw,by simp only [if_true]; exact ⟨r,new,evalQ_ok hΓ he hn,fun x hx=>.inl (newIn_all hn x hx).1,h⟩⟩
theorem WOps.opG (hΓ:TOk P Γ) {ops rest:List Oper} {K:St→Prop} {o:Oper} {st:St} {t:Bool} {r:AV} (hw:wantedA ops o st=some t) (hn:isWrite o=false) (hd:dstOk o st=true) (hp:t=true→evalP Γ o st=some r)
    (h:WOps P ops K rest (st.put o.dst (if t=true then r else .dead))):WOps P ops K (o :: rest) st:=by
  refine ⟨hd,t,hw, ?_⟩
  cases t with
  | true =>
    simp only [if_true] at h ⊢
    refine WOp.eval hΓ (r:=r) (st':=st) ?_ h
    simp only [evalAll,hn,hp rfl]
  | false =>
    simp only [Bool.false_eq_true,if_false] at h ⊢
    exact ⟨_,.inl rfl,h⟩
theorem WOps.skip {ops rest:List Oper} {K:St→Prop} {o:Oper} {st:St} (hw:wantedA ops o st=some false) (hd:dstOk o st=true) (h:WOps P ops K rest (st.put o.dst (.val undef))):WOps P ops K (o :: rest) st:=⟨hd,false,hw,by simp only [Bool.false_eq_true,if_false]; exact ⟨_,.inr rfl,h⟩⟩
theorem WOps.norm {ops l:List Oper} {K:St→Prop} {st st' : St} (h:st=st') (k:WOps P ops K l st'):WOps P ops K l st:=by subst h; exact k
theorem WOps.endK {ops:List Oper} {K:St→Prop} {st:St} (h:K st):WOps P ops K [] st:=h
/-! ### calls -/
def CallT (P:Program) (g:FuncId) (ys:List AV) (os:List (Nat×Obj)) (b:Bool) (ps:List (Nat×Nat)) (d:Nat) (N:AV→List (Nat×Obj)→Prop):Prop:=
  ∃ R:AV→List (Nat×Obj)→Prop,ACalls P g ys os R∧∀ r o,R r o→backOk ps d o=true∧freeNews b r o=true∧N r o
theorem CallT.mk {g:FuncId} {ys:List AV} {os:List (Nat×Obj)} {b:Bool} {ps:List (Nat×Nat)} {d:Nat} {N:AV→List (Nat×Obj)→Prop} {r0:AV} {n0:List (Nat×Obj)} (hc:ACalls P g ys os (fun r o=>r=r0∧o=n0)) (hb:(backOk ps d n0 && freeNews b r0 n0)=true)
    (h:N r0 n0):CallT P g ys os b ps d N:=by
  rw [Bool.and_eq_true] at hb
  exact ⟨_,hc,fun r o ⟨h1,h2⟩=>by subst h1; subst h2; exact ⟨hb.1,hb.2,h⟩⟩
theorem CallT.mkE {α:Type} {g:FuncId} {ys:List AV} {os:List (Nat×Obj)} {b:Bool} {ps:List (Nat×Nat)} {d:Nat} {N:AV→List (Nat×Obj)→Prop} {r0:α→AV} {n0:α→List (Nat×Obj)} {Z:α→Prop} (hc:ACalls P g ys os (fun r o=>∃ z,r=r0 z∧o=n0 z∧Z z))
    (h:∀ z,Z z→(backOk ps d (n0 z) && freeNews b (r0 z) (n0 z))=true∧N (r0 z) (n0 z)):CallT P g ys os b ps d N:=by
  refine ⟨_,hc,fun r o ⟨z,h1,h2,h3⟩=>?_⟩
  subst h1; subst h2
  obtain ⟨k1,k2⟩:=h z h3
  rw [Bool.and_eq_true] at k1
  exact ⟨k1.1,k1.2,k2⟩
theorem WOps.call {ops rest:List Oper} {K:St→Prop} {o:Oper} {st:St} {f:Operand} {args:Array Operand} {tys:Array TypeId} (ho:o.op = .call { callee:=.value f,args,argTypes:=tys }) (hw:wantedA ops o st=some true) (hd0:dstOk o st=true)
    {g:FuncId} {caps:List AV} (hf:st.callee f=some (g,caps)) (ps:List (Nat×Nat)) (hps:psOk ps=true) {d:Nat} (hd:o.dst.getD 1249=d) (hd2:d < 1250) {ys:List AV} {b:Bool} (hsn:st.snaps ps (st.bound f ++ args.toList.map st.ev ++ caps)=some (ys,b))
    {os:List (Nat×Obj)} (hos:st.objsFor ps ps=some os) (h:CallT P g ys os b ps d (fun r n=>WOps P ops K rest ((st.adopt ps d n).put o.dst (r.ren (outName ps d))))):WOps P ops K (o :: rest) st:=by
  obtain ⟨R,hc,hN⟩:=h
  exact ⟨hd0,true,hw,by simp only [if_true]; exact WOp.call ho hf ps hps hsn hos hc hd hd2 fun r n hR=>hN r n hR⟩
theorem WOps.callM {ops rest:List Oper} {K:St→Prop} {o:Oper} {st:St} {f:Operand} {args:Array Operand} {tys:Array TypeId} (ho:o.op = .call { callee:=.value f,args,argTypes:=tys }) (hw:wantedA ops o st=some true) (hd0:dstOk o st=true)
    {g:FuncId} {caps:List AV} (hf:st.callee f=some (g,caps)) (ps:List (Nat×Nat)) (hps:psOkL ps=true) (ids:List Nat) {d:Nat} (hd:o.dst.getD 1249=d) (hd2:d < 1250) {ys:List AV} {b:Bool} (hsn:st.snaps ps (st.bound f ++ args.toList.map st.ev ++ caps)=some (ys,b))
    {os:List (Nat×Obj)} (hos:(st.mutes ids).objsFor ps ps=some os) (h:CallT P g ys os b ps d (fun r n=>movB ps d n (st.mutes ids)=true∧WOps P ops K rest (((st.mutes ids).adopt ps d n).put o.dst (r.ren (outName ps d))))):WOps P ops K (o :: rest) st:=by
  obtain ⟨R,hc,hN⟩:=h
  exact ⟨hd0,true,hw,by simp only [if_true]; exact WOp.callM ho hf ps hps ids hsn hos hc hd hd2 fun r n hR=>hN r n hR⟩
attribute [simp] movB St.mutes Obj.men
theorem adopt_nil (st:St) (d:Nat):st.adopt [] d []=st:=rfl
theorem ren_outNil (d:Nat) {x:AV} (h:x.isData=true):x.ren (outName [] d)=x:=AV.ren_data _ x h
theorem WOps.callG {ops rest:List Oper} {K:St→Prop} {o:Oper} {st:St} {t:Bool} {f:Operand} {args:Array Operand} {tys:Array TypeId} (ho:o.op = .call { callee:=.value f,args,argTypes:=tys }) (hw:wantedA ops o st=some t) (hd0:dstOk o st=true)
    {d:Nat} (hd:o.dst.getD 1249=d) (hd2:d < 1250) {r0:AV} (hc:t=true→∃ g caps ys b,st.callee f=some (g,caps)∧st.snaps [] (st.bound f ++ args.toList.map st.ev ++ caps)=some (ys,b)∧ACalls P g ys [] (fun r o=>r=r0∧o=[])∧freeNews b r0 []=true∧r0.isData=true)
    (h:WOps P ops K rest (st.put o.dst (if t=true then r0 else .dead))):WOps P ops K (o :: rest) st:=by
  refine ⟨hd0,t,hw, ?_⟩
  cases t with
  | true =>
    obtain ⟨g,caps,ys,b,h1,h2,h3,h4,h5⟩:=hc rfl
    simp only [if_true] at h ⊢
    refine WOp.call ho h1 [] rfl h2 (os:=[]) rfl h3 hd hd2 fun r n ⟨e1,e2⟩=>?_
    subst e1; subst e2
    refine ⟨by simp [backOk],h4, ?_⟩
    rw [adopt_nil,ren_outNil d h5]; exact h
  | false =>
    simp only [Bool.false_eq_true,if_false] at h ⊢
    exact ⟨_,.inl rfl,h⟩
/-! ### drawn regions, so many operations -/
noncomputable def drawN (Γ:TypeId→Option TI) (ops:List Oper) (deps:List (List Nat)) (eff:List (Nat×List Nat)) (s0:St):Nat→List Oper→Nat→List REnt→Option (List Oper×Nat×List REnt)
  | 0,rest,k,ents=>some (rest,k,ents)
  | _ + 1,[],_,_=>none
  | n + 1, o :: rest, k, ents => match wantedA ops o (viewSt ops deps eff s0 k ents) with
    | some true=>match evalQ Γ o (viewSt ops deps eff s0 k ents) with
      | some (r,new)=>match newIn o (viewSt ops deps eff s0 k ents) new with
        | true=>drawN Γ ops deps eff s0 n rest (k + 1) (ents ++ [⟨o.dst,r,new⟩])
        | false=>none
      | none=>none
    | some false=>drawN Γ ops deps eff s0 n rest (k + 1) (ents ++ [⟨o.dst,.dead,[]⟩])
    | none=>none
theorem WDraw.nN (hΓ : TOk P Γ) {ops : List Oper} {deps : List (List Nat)} {eff : List (Nat × List Nat)} {s0 : St} {K : DrawK} {m : Nat} : ∀ {n : Nat} {rest rest' : List Oper} {k k' : Nat} {ents ents' : List REnt},
    drawN Γ ops deps eff s0 n rest k ents=some (rest',k',ents')→WDraw P ops deps eff s0 K m rest' k' ents'→WDraw P ops deps eff s0 K (m + n) rest k ents
  | 0,rest,rest',k,k',ents,ents',hr,h=>by cases hr; exact h
  | n + 1,[],rest',k,k',ents,ents',hr,h=>by cases hr
  | n + 1, o :: rest, rest', k, k', ents, ents', hr, h => by
    simp only [drawN] at hr
    show WDraw P ops deps eff s0 K ((m + n) + 1) (o :: rest) k ents
    split at hr
    · rename_i hw
      split at hr
      · rename_i r new hq
        split at hr
        · rename_i hn
          exact ⟨true,hw,by simp only [if_true]; exact ⟨r,new,evalQ_ok hΓ hq hn,fun x hx=>.inl (newIn_all hn x hx).1,WDraw.nN hΓ hr h⟩⟩
        · cases hr
      · cases hr
    · rename_i hw
      exact ⟨false,hw,by simp only [Bool.false_eq_true,if_false]; exact ⟨_,.inl rfl,WDraw.nN hΓ hr h⟩⟩
    · cases hr
theorem WDraw.n (hΓ:TOk P Γ) (n m:Nat) {ops:List Oper} {deps:List (List Nat)} {eff:List (Nat×List Nat)} {s0:St} {K:DrawK} {N:Nat} {rest rest' : List Oper} {k k' : Nat} {ents ents' : List REnt} {q:Option (List Oper×Nat×List REnt)} (hN:N=m + n)
    (hr:drawN Γ ops deps eff s0 n rest k ents=q) (hq:q=some (rest',k',ents')) (h:WDraw P ops deps eff s0 K m rest' k' ents'):WDraw P ops deps eff s0 K N rest k ents:=by
  subst hN; exact WDraw.nN hΓ (hr.trans hq) h
theorem WDraw.opG (hΓ:TOk P Γ) {ops rest:List Oper} {deps:List (List Nat)} {eff:List (Nat×List Nat)} {s0 v:St} {K:DrawK} {n k:Nat} {ents ents' : List REnt} {o:Oper} {t:Bool} {r:AV} (hv:viewSt ops deps eff s0 k ents=v) (hw:wantedA ops o v=some t) (hp:t=true→evalP Γ o v=some r)
    (he:ents ++ [⟨o.dst,if t=true then r else .dead,[]⟩]=ents') (h:WDraw P ops deps eff s0 K n rest (k + 1) ents'):WDraw P ops deps eff s0 K (n + 1) (o :: rest) k ents:=by
  subst he; subst hv
  refine ⟨t,hw, ?_⟩
  cases t with
  | true =>
    simp only [if_true] at h ⊢
    exact ⟨r,[],QStep.pure hΓ (hp rfl),fun x hx=>by simp at hx,h⟩
  | false =>
    simp only [Bool.false_eq_true,if_false] at h ⊢
    exact ⟨_,.inl rfl,h⟩
theorem WDraw.skip {ops rest:List Oper} {deps:List (List Nat)} {eff:List (Nat×List Nat)} {s0 v:St} {K:DrawK} {n k:Nat} {ents ents' : List REnt} {o:Oper} (hv:viewSt ops deps eff s0 k ents=v) (hw:wantedA ops o v=some false) (he:ents ++ [⟨o.dst,.val undef,[]⟩]=ents')
    (h:WDraw P ops deps eff s0 K n rest (k + 1) ents'):WDraw P ops deps eff s0 K (n + 1) (o :: rest) k ents:=by
  subst he; subst hv; exact ⟨false,hw,by simp only [Bool.false_eq_true,if_false]; exact ⟨_,.inr rfl,h⟩⟩
def CallD (P:Program) (g:FuncId) (ys:List AV) (os:List (Nat×Obj)) (b:Bool) (ps:List (Nat×Nat)) (d:Nat) (N:AV→List (Nat×Obj)→Prop):Prop:=
  ∃ r0 n0,ACalls P g ys os (fun r o=>r=r0∧o=n0)∧backOk ps d n0=true∧freeNews b r0 n0=true∧N r0 n0
theorem CallD.mk {g:FuncId} {ys:List AV} {os:List (Nat×Obj)} {b:Bool} {ps:List (Nat×Nat)} {d:Nat} {N:AV→List (Nat×Obj)→Prop} {r0:AV} {n0:List (Nat×Obj)} (hc:ACalls P g ys os (fun r o=>r=r0∧o=n0)) (hb:(backOk ps d n0 && freeNews b r0 n0)=true)
    (h:N r0 n0):CallD P g ys os b ps d N:=by
  rw [Bool.and_eq_true] at hb
  exact ⟨r0,n0,hc,hb.1,hb.2,h⟩
theorem WDraw.callD {ops:List Oper} {deps:List (List Nat)} {eff:List (Nat×List Nat)} {s0:St} {K:DrawK} {n:Nat} {rest:List Oper} {k:Nat} {ents:List REnt} {o:Oper} {v:St} (hv:viewSt ops deps eff s0 k ents=v) (hw:wantedA ops o v=some true)
    {f:Operand} {args:Array Operand} {tys:Array TypeId} (ho:o.op = .call { callee:=.value f,args,argTypes:=tys }) {g:FuncId} {caps:List AV} (hf:v.callee f=some (g,caps)) (ps:List (Nat×Nat)) (hps:psOk ps=true) {ys:List AV} {b:Bool}
    (hsn:v.snaps ps (v.bound f ++ args.toList.map v.ev ++ caps)=some (ys,b)) {os:List (Nat×Obj)} (hos:v.objsFor ps ps=some os) {d:Nat} (hd:o.dst=some d) (hd1:decide (d < 1250)=true) (hk:ps.map (·.2)=[]∨(k,ps.map (·.2))∈eff)
    (h:CallD P g ys os b ps d fun r0 n0=>((ps.all fun x=>(look x.1 n0).isSome) && ((newIds d n0).all fun id=>(look id v.objs).isNone) && outIn (ps.map (·.2)) o v (n0.map fun x=>(outName ps d x.1,x.2.ren (outName ps d))))=true ∧
      ∃ ents',ents ++ [⟨o.dst,r0.ren (outName ps d),n0.map fun x=>(outName ps d x.1,x.2.ren (outName ps d))⟩]=ents'∧WDraw P ops deps eff s0 K n rest (k + 1) ents'):WDraw P ops deps eff s0 K (n + 1) (o :: rest) k ents:=by
  subst hv
  obtain ⟨r0,n0,hc,h1,h2,h3,ents',rfl,h4⟩:=h
  simp only [Bool.and_eq_true] at h3
  obtain ⟨⟨h5,h6⟩,h7⟩:=h3
  exact WDraw.call hw ho rfl hf ps hps hsn hos hc hd (by simp only [hd1,h1,h2,h5,h6,Bool.and_self]) rfl rfl h7 hk h4
theorem WDraw.callG {ops:List Oper} {deps:List (List Nat)} {eff:List (Nat×List Nat)} {s0:St} {K:DrawK} {n:Nat} {rest:List Oper} {k:Nat} {ents ents' : List REnt} {o:Oper} {v:St} {t:Bool} (hv:viewSt ops deps eff s0 k ents=v) (hw:wantedA ops o v=some t)
    {f:Operand} {args:Array Operand} {tys:Array TypeId} (ho:o.op = .call { callee:=.value f,args,argTypes:=tys }) {d:Nat} (hd:o.dst=some d) (hd1:decide (d < 1250)=true) {r0:AV}
    (hc:t=true→∃ g caps ys b,v.callee f=some (g,caps)∧v.snaps [] (v.bound f ++ args.toList.map v.ev ++ caps)=some (ys,b)∧ACalls P g ys [] (fun r o=>r=r0∧o=[])∧freeNews b r0 []=true∧r0.isData=true)
    (he:ents ++ [⟨o.dst,if t=true then r0 else .dead,[]⟩]=ents') (h:WDraw P ops deps eff s0 K n rest (k + 1) ents'):WDraw P ops deps eff s0 K (n + 1) (o :: rest) k ents:=by
  subst hv; subst he
  cases t with
  | false=>exact ⟨false,hw,by simp only [Bool.false_eq_true,if_false] at h ⊢; exact ⟨_,.inl rfl,h⟩⟩
  | true =>
    obtain ⟨g,caps,ys,b,h1,h2,h3,h4,h5⟩:=hc rfl
    simp only [if_true] at h
    exact WDraw.call hw ho rfl h1 [] rfl h2 (os:=[]) rfl h3 hd (by rw [hd1,h4]; rfl) (ren_outNil d h5) rfl rfl (.inl rfl) h
theorem W.drawT [M:Mode] (hm:P.follows .mixedOrders=true) {id:Nat} {ops:Array Oper} {y:Code} {st:St} {Q:Exit→St→Prop} (n:Nat) (eff:List (Nat×List Nat)) {deps:List (List Nat)} (hdeps:allDeps ops.toList []=deps)
    (hok:(drawOk ops.toList deps n st.nt && freshOk ops.toList st.objs && decide (n≤ops.size) && effOk ops.toList deps eff st.objs)=true)
    (h:WDraw P ops.toList deps eff st (drawK P ops.toList st (fun s=>W P y s Q)) n ops.toList 0 []):W P (.seq (.region id ops true) y) st Q:=by
  subst hdeps
  exact W.seq (W.drawS hm n eff rfl hok h)
theorem W.drawE [M:Mode] (hm:P.follows .mixedOrders=true) {id:Nat} {ops:Array Oper} {st:St} {Q:Exit→St→Prop} (n:Nat) (eff:List (Nat×List Nat)) {deps:List (List Nat)} (hdeps:allDeps ops.toList []=deps)
    (hok:(drawOk ops.toList deps n st.nt && freshOk ops.toList st.objs && decide (n≤ops.size) && effOk ops.toList deps eff st.objs)=true)
    (h:WDraw P ops.toList deps eff st (drawK P ops.toList st (Q .normal)) n ops.toList 0 []):W P (.region id ops true) st Q:=by
  subst hdeps
  exact W.drawS hm n eff rfl hok h
def AnyC (P:Program) (g:FuncId) (ys:List AV) (os:List (Nat×Obj)) (b:Bool) (ps:List (Nat×Nat)) (d:Nat) (N:AV→List (Nat×Obj)→Prop):Prop:=
  ∃ R0:AV→List (Nat×Obj)→Prop,ACalls P g ys os R0∧(∃ r0 n0,R0 r0 n0)∧∀ r0 n0,R0 r0 n0→(backOk ps d n0 && freeNews b r0 n0)=true∧N r0 n0
theorem AnyC.mk {g:FuncId} {ys:List AV} {os:List (Nat×Obj)} {b:Bool} {ps:List (Nat×Nat)} {d:Nat} {N:AV→List (Nat×Obj)→Prop} {α:Type} {ra:α→AV} {oa:α→List (Nat×Obj)} {Z:α→Prop} (hc:ACalls P g ys os fun r o=>∃ z,r=ra z∧o=oa z∧Z z) (z0:∃ z,Z z)
    (h:∀ z,Z z→(backOk ps d (oa z) && freeNews b (ra z) (oa z))=true∧N (ra z) (oa z)):AnyC P g ys os b ps d N:=by
  refine ⟨_,hc, ?_, ?_⟩
  · obtain ⟨z,hz⟩:=z0; exact ⟨_,_,z,rfl,rfl,hz⟩
  · rintro _ _ ⟨z,rfl,rfl,hz⟩; exact h z hz
def sameX (deps:List (List Nat)) (c:Nat):Nat→List REnt→List REnt→Prop
  | _,[],_=>True
  | j,e :: l,f :: F=>((deps.getD j []).contains c=true∨e=f)∧sameX deps c (j + 1) l F
  | _,_ :: _,[]=>False
theorem sameX.ni {deps:List (List Nat)} {c j:Nat} {F:List REnt}:sameX deps c j [] F:=by cases F <;> exact trivial
/-! ### operations that may be left out: what says so is reckoned first -/
def WG (P:Program) (ops:List Oper) (K:St→Prop) (o:Oper) (rest:List Oper) (st:St) (x:Bool):Prop:=wantedA ops o st=some x→WOps P ops K (o :: rest) st
def WGf (P:Program) (ops:List Oper) (K:St→Prop) (o:Oper) (rest:List Oper) (st:St):Prop:=WG P ops K o rest st false
def WGt (P:Program) (ops:List Oper) (K:St→Prop) (o:Oper) (rest:List Oper) (st:St):Prop:=WG P ops K o rest st true
def WGx (P:Program) (ops:List Oper) (K:St→Prop) (o:Oper) (rest:List Oper) (st:St) (x:Bool):Prop:=WG P ops K o rest st x
section
variable {ops rest:List Oper} {K:St→Prop} {o:Oper} {st:St} {x:Bool}
theorem WOps.gd {d:Nat} {b:Bool} {u:Value} (h1:guardD ops o=some (d,b)) (h2:st.at d = .val u) (hx:isB b u=x) (h:WG P ops K o rest st x):WOps P ops K (o :: rest) st:=h (wantedOf h1 h2 hx)
theorem WG.isF (h:WGf P ops K o rest st):WG P ops K o rest st false:=h
theorem WG.isT (h:WGt P ops K o rest st):WG P ops K o rest st true:=h
theorem WG.isX (h:WGx P ops K o rest st x):WG P ops K o rest st x:=h
theorem WGf.mk {s2:St} (hd:dstOk o st=true) (hs:st.put o.dst (.val undef)=s2) (h:WOps P ops K rest s2):WGf P ops K o rest st:=fun hw=>by subst hs; exact WOps.skip hw hd h
theorem WGt.mk (hΓ:TOk P Γ) {s1 s2:St} {r:AV} (hd:dstOk o st=true) (hev:evalAll Γ o st=some (r,s1)) (hs:s1.put o.dst r=s2) (h:WOps P ops K rest s2):WGt P ops K o rest st:=fun hw=>WOps.opT hΓ hw hd hev hs h
theorem WGx.mk (hΓ:TOk P Γ) {s2:St} {r:AV} (hn:isWrite o=false) (hd:dstOk o st=true) (hp:x=true→evalP Γ o st=some r) (hs:st.put o.dst (if x=true then r else .dead)=s2) (h:WOps P ops K rest s2):WGx P ops K o rest st x:=fun hw=>by subst hs; exact WOps.opG hΓ hw hn hd hp h
theorem WGt.call {f:Operand} {args:Array Operand} {tys:Array TypeId} (ho:o.op = .call { callee:=.value f,args,argTypes:=tys }) (hd0:dstOk o st=true)
    {g:FuncId} {caps:List AV} (hf:st.callee f=some (g,caps)) (ps:List (Nat×Nat)) (hps:psOk ps=true) {d:Nat} (hd:o.dst.getD 1249=d) (hd2:d < 1250) {ys:List AV} {b:Bool} (hsn:st.snaps ps (st.bound f ++ args.toList.map st.ev ++ caps)=some (ys,b))
    {os:List (Nat×Obj)} (hos:st.objsFor ps ps=some os) (h:CallT P g ys os b ps d (fun r n=>WOps P ops K rest ((st.adopt ps d n).put o.dst (r.ren (outName ps d))))):WGt P ops K o rest st:=fun hw=>WOps.call ho hw hd0 hf ps hps hd hd2 hsn hos h
theorem WGx.call {f:Operand} {args:Array Operand} {tys:Array TypeId} (ho:o.op = .call { callee:=.value f,args,argTypes:=tys }) (hd0:dstOk o st=true)
    {d:Nat} (hd:o.dst.getD 1249=d) (hd2:d < 1250) {r0:AV} (hc:x=true→∃ g caps ys b,st.callee f=some (g,caps)∧st.snaps [] (st.bound f ++ args.toList.map st.ev ++ caps)=some (ys,b)∧ACalls P g ys [] (fun r o=>r=r0∧o=[])∧freeNews b r0 []=true∧r0.isData=true)
    {s2:St} (hs:st.put o.dst (if x=true then r0 else .dead)=s2) (h:WOps P ops K rest s2):WGx P ops K o rest st x:=fun hw=>by subst hs; exact WOps.callG ho hw hd0 hd hd2 hc h
end
def DG (P:Program) (ops:List Oper) (deps:List (List Nat)) (eff:List (Nat×List Nat)) (s0:St) (K:DrawK) (n:Nat) (o:Oper) (rest:List Oper) (k:Nat) (ents:List REnt) (v:St) (x:Bool):Prop:=
  viewSt ops deps eff s0 k ents=v→wantedA ops o v=some x→WDraw P ops deps eff s0 K (n + 1) (o :: rest) k ents
def DGf (P:Program) (ops:List Oper) (deps:List (List Nat)) (eff:List (Nat×List Nat)) (s0:St) (K:DrawK) (n:Nat) (o:Oper) (rest:List Oper) (k:Nat) (ents:List REnt) (v:St):Prop:=DG P ops deps eff s0 K n o rest k ents v false
def DGt (P:Program) (ops:List Oper) (deps:List (List Nat)) (eff:List (Nat×List Nat)) (s0:St) (K:DrawK) (n:Nat) (o:Oper) (rest:List Oper) (k:Nat) (ents:List REnt) (v:St):Prop:=DG P ops deps eff s0 K n o rest k ents v true
def DGx (P:Program) (ops:List Oper) (deps:List (List Nat)) (eff:List (Nat×List Nat)) (s0:St) (K:DrawK) (n:Nat) (o:Oper) (rest:List Oper) (k:Nat) (ents:List REnt) (v:St) (x:Bool):Prop:=DG P ops deps eff s0 K n o rest k ents v x
section
variable {ops rest:List Oper} {deps:List (List Nat)} {eff:List (Nat×List Nat)} {s0 v:St} {K:DrawK} {n k:Nat} {ents ents' : List REnt} {o:Oper} {x:Bool}
theorem WDraw.gd {d:Nat} {b:Bool} {u:Value} (hv:viewSt ops deps eff s0 k ents=v) (h1:guardD ops o=some (d,b)) (h2:v.at d = .val u) (hx:isB b u=x) (h:DG P ops deps eff s0 K n o rest k ents v x):WDraw P ops deps eff s0 K (n + 1) (o :: rest) k ents:=h hv (wantedOf h1 h2 hx)
theorem DG.isF (h:DGf P ops deps eff s0 K n o rest k ents v):DG P ops deps eff s0 K n o rest k ents v false:=h
theorem DG.isT (h:DGt P ops deps eff s0 K n o rest k ents v):DG P ops deps eff s0 K n o rest k ents v true:=h
theorem DG.isX (h:DGx P ops deps eff s0 K n o rest k ents v x):DG P ops deps eff s0 K n o rest k ents v x:=h
theorem DGt.norm {v' : St} (hv:viewSt ops deps eff s0 k ents=v') (h:DGt P ops deps eff s0 K n o rest k ents v'):DGt P ops deps eff s0 K n o rest k ents (viewSt ops deps eff s0 k ents):=fun _ hw=>h hv (by rw [← hv]; exact hw)
theorem DGx.norm {v' : St} (hv:viewSt ops deps eff s0 k ents=v') (h:DGx P ops deps eff s0 K n o rest k ents v' x):DGx P ops deps eff s0 K n o rest k ents (viewSt ops deps eff s0 k ents) x:=fun _ hw=>h hv (by rw [← hv]; exact hw)
theorem DGf.mk (he:ents ++ [⟨o.dst,.val undef,[]⟩]=ents') (h:WDraw P ops deps eff s0 K n rest (k + 1) ents'):DGf P ops deps eff s0 K n o rest k ents v:=fun hv hw=>WDraw.skip hv hw he h
theorem DGt.mk (hΓ:TOk P Γ) {r:AV} {new:List (Nat×Obj)} (he:evalQ Γ o v=some (r,new)) (hn:newIn o v new=true) (hs:ents ++ [⟨o.dst,r,new⟩]=ents') (h:WDraw P ops deps eff s0 K n rest (k + 1) ents'):DGt P ops deps eff s0 K n o rest k ents v:=fun hv hw=>WDraw.opT hΓ hv hw he hn hs h
theorem DGx.mk (hΓ:TOk P Γ) {r:AV} (hp:x=true→evalP Γ o v=some r) (he:ents ++ [⟨o.dst,if x=true then r else .dead,[]⟩]=ents') (h:WDraw P ops deps eff s0 K n rest (k + 1) ents'):DGx P ops deps eff s0 K n o rest k ents v x:=fun hv hw=>WDraw.opG hΓ hv hw hp he h
theorem DGt.call {f:Operand} {args:Array Operand} {tys:Array TypeId} (ho:o.op = .call { callee:=.value f,args,argTypes:=tys }) {g:FuncId} {caps:List AV} (hf:v.callee f=some (g,caps)) (ps:List (Nat×Nat)) (hps:psOk ps=true) {ys:List AV} {b:Bool}
    (hsn:v.snaps ps (v.bound f ++ args.toList.map v.ev ++ caps)=some (ys,b)) {os:List (Nat×Obj)} (hos:v.objsFor ps ps=some os) {d:Nat} (hd:o.dst=some d) (hd1:decide (d < 1250)=true) (hk:ps.map (·.2)=[]∨(k,ps.map (·.2))∈eff)
    (h:CallD P g ys os b ps d fun r0 n0=>((ps.all fun x=>(look x.1 n0).isSome) && ((newIds d n0).all fun id=>(look id v.objs).isNone) && outIn (ps.map (·.2)) o v (n0.map fun x=>(outName ps d x.1,x.2.ren (outName ps d))))=true ∧
      ∃ ents',ents ++ [⟨o.dst,r0.ren (outName ps d),n0.map fun x=>(outName ps d x.1,x.2.ren (outName ps d))⟩]=ents'∧WDraw P ops deps eff s0 K n rest (k + 1) ents'):DGt P ops deps eff s0 K n o rest k ents v:=fun hv hw=>WDraw.callD hv hw ho hf ps hps hsn hos hd hd1 hk h
theorem DGx.call {f:Operand} {args:Array Operand} {tys:Array TypeId} (ho:o.op = .call { callee:=.value f,args,argTypes:=tys }) {d:Nat} (hd:o.dst=some d) (hd1:decide (d < 1250)=true) {r0:AV}
    (hc:x=true→∃ g caps ys b,v.callee f=some (g,caps)∧v.snaps [] (v.bound f ++ args.toList.map v.ev ++ caps)=some (ys,b)∧ACalls P g ys [] (fun r o=>r=r0∧o=[])∧freeNews b r0 []=true∧r0.isData=true)
    (he:ents ++ [⟨o.dst,if x=true then r0 else .dead,[]⟩]=ents') (h:WDraw P ops deps eff s0 K n rest (k + 1) ents'):DGx P ops deps eff s0 K n o rest k ents v x:=fun hv hw=>WDraw.callG hv hw ho hd hd1 hc he h
end
theorem WOps.le {ops rest:List Oper} {K:St→Prop} {o:Oper} {st st' : St} (hl:Le st st') (hg:o.guard=none) (hd:dstOk o st=true) (h:WOps P ops K (o :: rest) st'):WOps P ops K (o :: rest) st:=by
  obtain ⟨_,t,hw,h⟩:=h
  have hw' : ∀ s:St,wantedA ops o s=some true:=fun s=>by unfold wantedA; rw [hg]
  rw [hw' st'] at hw
  cases hw
  simp only [if_true] at h
  refine ⟨hd,true,hw' st, ?_⟩
  simp only [if_true]
  intro rd a w e hc next Q hn
  obtain ⟨e2,c2,f2⟩:=hl a w e hc
  exact h rd a w e2 c2 next Q fun r s v w' e' hK h1 h2 h3=>hn r s v w' e' hK h1 (f2.trans h2) h3
/-! ### loops -/
def dropO (ds ids:List Nat):List (Nat×Obj)→List (Nat×Obj)
  | []=>[]
  | x :: r=>if (decide (x.1 < 10000) && ds.contains (x.1 / 8)) || ids.contains x.1 then dropO ds ids r else x :: dropO ds ids r
def holdsO (os:List (Nat×Obj)):List (Nat×Obj)→Prop
  | []=>True
  | (t,x) :: r=>look t os=some x∧holdsO os r
def keysIn (os objs:List (Nat×Obj)):Bool:=os.all fun x=>(look x.1 objs).isSome
def spare : List (Nat × Obj) → List (Nat × Obj) → List Nat
  | [],_=>[]
  | x :: r,objs=>match look x.1 objs with
    | some _=>spare r objs
    | none=>x.1 :: spare r objs
theorem holdsO_look {os:List (Nat×Obj)}:∀ {l:List (Nat×Obj)},holdsO os l→∀ t x,look t l=some x→look t os=some x
  | (k,y) :: r,h,t,x,hx=>by
    simp only [look] at hx
    split at hx
    · rename_i hk; subst hk; cases hx; exact h.1
    · exact holdsO_look h.2 t x hx
theorem Le.fit {s s' : St} {nt:Nat} {tm:List (Nat×AV)} {objs:List (Nat×Obj)} (hs:(s.keep (tm.map (·.1))).killIds (spare s.objs objs)=s') (hn:s'.nt=nt) (hu:(spare s.objs objs).all unp=true) (hk:keysIn s'.objs objs=true) (hT:holdsT s'.tmps tm) (hO:holdsO s'.objs objs):Le s ⟨nt,tm,objs⟩:=by
  subst hs; subst hn
  refine (Le.keep (tm.map (·.1))).trans ((Le.kill (l:=spare s.objs objs) (by simpa using hu)).trans ?_)
  refine Le.objs rfl (fun id=>?_) hT
  cases hl:look id objs with
  | some o=>exact holdsO_look hO id o hl
  | none =>
    cases hl' : look id ((s.keep (tm.map (·.1))).killIds (spare s.objs objs)).objs with
    | none=>rfl
    | some o =>
      have h1:=List.all_eq_true.1 hk _ (look_mem hl')
      simp [hl] at h1
theorem W.loopU [M:Mode] {α:Type} (L ds ids:List Nat) {c:Code} {st:St} {Q:Exit→St→Prop} (vt:α→List (Nat×AV)) (vo:α→List (Nat×Obj)) (I:α→Prop) (μ:α→Nat) (x0:α) {nt:Nat} {tm0:List (Nat×AV)} {ob0:List (Nat×Obj)} (hn:st.nt=nt) (h1:selT st.tmps L=tm0) (h2:dropO ds ids st.objs=ob0)
    (h0:Le st ⟨nt,vt x0 ++ tm0,vo x0 ++ ob0⟩) (hI:I x0) (round:∀ x,I x→W P c ⟨nt,vt x ++ tm0,vo x ++ ob0⟩ (thenQ (fun s'=>∃ y,Le s' ⟨nt,vt y ++ tm0,vo y ++ ob0⟩∧I y∧μ y < μ x) Q)):W P (.loop c) st Q:=
  W.loopS (fun x=>⟨nt,vt x ++ tm0,vo x ++ ob0⟩) I μ x0 h0 hI round
def St.ownNilO (st : St) (id k j nid : Nat) (ty : TypeId) (sz : Nat) : Option St :=
  match look id (st.renew nid (.row true ty sz [])).objs with
  | some (.row false t s els)=>match els[k]? with
    | some y=>match y.cells[j]? with
      | some (.val (.slice none 0 0))=>match y.setCells j [.own nid 0 0] with
        | some z=>if unp nid=true∧nid≠id then some { st.renew nid (.row true ty sz []) with objs:=upd id (.row false t s (els.set k z)) (st.renew nid (.row true ty sz [])).objs } else none
        | none=>none
      | _=>none
    | none=>none
  | _=>none
theorem Le.ownNilO {st s2 : St} {id k j nid : Nat} {ty : TypeId} {sz : Nat} (h : st.ownNilO id k j nid ty sz = some s2) : Le st s2 := by
  intro a w e hc
  unfold St.ownNilO at h
  split at h
  · rename_i t s els ho
    split at h
    · rename_i y hy
      split at h
      · rename_i hcell
        split at h
        · rename_i z hz
          split at h
          · rename_i hu
            cases h
            obtain ⟨c1,f1⟩:=hc.phantom nid hu.1 ty sz
            have hdom:=c1.sim.dom id
            rw [ho] at hdom
            obtain ⟨m,hm⟩:=Option.isSome_iff_exists.1 (hdom.trans rfl)
            have hk:=c1.sim.obj id _ m ho hm
            obtain ⟨hle,hzc⟩:=AV.setCells_cells hz
            refine ⟨_,c1.write id _ m hm (Fr.refl _ _) (fun _ _ _ _ _ _=>rfl) ⟨hk.hsz,by simpa using hk.len,hk.cap,fun x hx=>?_,hk.only, ?_⟩,f1⟩
            · rcases List.mem_or_eq_of_mem_set hx with hx | rfl
              · exact hk.cells x hx
              · rw [hzc,← hk.cells y (List.mem_of_getElem? hy)]
                simp only [setSeg,List.length_append,List.length_take,List.length_drop,List.length_singleton] at hle ⊢
                omega
            · have hkb:=hk.blk
              cases hmb:m.blk with
              | none=>simpa [hmb] using hkb
              | some b =>
                simp only [hmb] at hkb ⊢
                obtain ⟨cur,h1,h2,h3⟩:=hkb
                refine ⟨cur,h1,h2,fun i x hx jj q hq=>?_⟩
                rw [List.getElem?_set] at hx
                by_cases hki:k=i
                · subst hki
                  rw [if_pos rfl] at hx
                  split at hx
                  · cases hx
                    rw [hzc] at hq
                    by_cases hjj:jj=j
                    · subst hjj
                      have hjlt:jj < y.cells.length:=(List.getElem?_eq_some_iff.1 hcell).1
                      simp only [setSeg,List.getElem?_append,List.length_take,List.length_singleton] at hq
                      rw [if_neg (by omega)] at hq
                      have:jj - min jj y.cells.length=0:=by omega
                      rw [this] at hq
                      simp only [List.length_singleton,Nat.lt_one_iff,if_true,List.getElem?_cons_zero,Option.some.injEq] at hq
                      subst hq
                      obtain ⟨v,g1,g2,g3⟩:=h3 k y hy jj _ hcell
                      have hv:=g3.rd.val_inv
                      subst hv
                      exact ⟨_,g1,g2,by simp only [CellRd,Bool.false_eq_true,if_false]; exact .own0 nid (mt none 0 sz) (by simp [Env.set]) rfl none⟩
                    · refine h3 k y hy jj q ?_
                      simp only [setSeg,List.getElem?_append,List.length_take,List.length_singleton] at hq
                      by_cases hlt:jj < j
                      · have hjlt:j < y.cells.length:=(List.getElem?_eq_some_iff.1 hcell).1
                        rw [if_pos (by omega),List.getElem?_take,if_pos hlt] at hq
                        exact hq
                      · have hjlt:j < y.cells.length:=(List.getElem?_eq_some_iff.1 hcell).1
                        rw [if_neg (by omega),if_neg (by omega),List.getElem?_drop] at hq
                        rw [← hq]; congr 1; omega
                  · cases hx
                · rw [if_neg hki] at hx
                  exact h3 i x hx jj q hq
          · cases h
        · cases h
      · cases h
    · cases h
  · cases h
theorem W.ownNilO [M:Mode] {c:Code} {st s2:St} {Q:Exit→St→Prop} (id k j nid:Nat) (ty:TypeId) (sz:Nat) (h:st.ownNilO id k j nid ty sz=some s2) (hw:W P c s2 Q):W P c st Q:=W.weaken (Le.ownNilO h) hw
theorem W.freeze [M:Mode] {c:Code} {st s2:St} {Q:Exit→St→Prop} (id:Nat) (h:st.freeze id=some s2) (hw:W P c s2 Q):W P c st Q:=W.weaken (Le.freeze h) hw
/-! ### the end of a function -/
def St.freezes (st : St) : List Nat → Option St
  | []=>some st
  | id :: r=>match st.freeze id with
    | some s=>St.freezes s r
    | none=>none
theorem Le.freezes:∀ {l:List Nat} {st st' : St},st.freezes l=some st'→Le st st'
  | [],st,st',h=>by cases h; exact Le.refl _
  | id :: r,st,st',h=>by
    simp only [St.freezes] at h
    split at h
    · rename_i s hs; exact (Le.freeze hs).trans (Le.freezes h)
    · cases h
mutual
def AV.deNil:AV→AV
  | .val (.slice none 0 0)=>.imm []
  | .agg l=>.agg (AV.deNilL l)
  | .tup l=>.tup (AV.deNilL l)
  | x=>x
def AV.deNilL:List AV→List AV
  | []=>[]
  | x :: xs=>AV.deNil x :: AV.deNilL xs
end
theorem AV.deNilL_get:∀ (l:List AV) (i:Nat),(AV.deNilL l)[i]?=(l[i]?).map AV.deNil
  | [],i=>by simp [AV.deNilL]
  | x :: xs,i=>by
    cases i with
    | zero=>simp [AV.deNilL]
    | succ i=>simp [AV.deNilL,AV.deNilL_get xs i]
theorem AV.deNilL_length:∀ (l:List AV),(AV.deNilL l).length=l.length
  | []=>rfl
  | x :: xs=>by simp [AV.deNilL,AV.deNilL_length xs]
mutual
theorem Rd.deNil {w : World} {e : Env} : ∀ (x : AV) {v : Value}, Rd w e x v → Rd w e x.deNil v
  | .agg l,v,h=>by
    obtain ⟨vs,rfl,hs,hr⟩:=h.agg_inv
    simp only [AV.deNil]
    refine .agg _ vs (by rw [AV.deNilL_length]; exact hs) fun i x u hx hu=>?_
    rw [AV.deNilL_get] at hx
    obtain ⟨y,hy,rfl⟩:=Option.map_eq_some_iff.1 hx
    exact Rd.deNilL l i y u hy (hr i y u hy hu)
  | .tup l,v,h=>by
    obtain ⟨vs,rfl,hs,hr⟩:=h.tup_inv
    simp only [AV.deNil]
    refine .tup _ vs (by rw [AV.deNilL_length]; exact hs) fun i x u hx hu=>?_
    rw [AV.deNilL_get] at hx
    obtain ⟨y,hy,rfl⟩:=Option.map_eq_some_iff.1 hx
    exact Rd.deNilL l i y u hy (hr i y u hy hu)
  | .val u,v,h=>by
    by_cases hu:u = .slice none 0 0
    · subst hu
      obtain rfl:=h.val_inv
      exact .data (.imm0 none 0)
    · have:(AV.val u).deNil = .val u:=by
        unfold AV.deNil; split <;> simp_all
      rw [this]; exact h
  | .dead,_,h=>h
  | .imm _,_,h=>h
  | .own ..,_,h=>h
  | .ptr ..,_,h=>h
  | .iptr _,_,h=>h
  | .map _,_,h=>h
  | .yld _,_,h=>h
  | .arr ..,_,h=>h
  | .sub ..,_,h=>h
  | .sptr ..,_,h=>h
  | .clo ..,_,h=>h
  | .mth ..,_,h=>h
theorem Rd.deNilL {w:World} {e:Env}:∀ (l:List AV) (i:Nat) (y:AV) (u:Value),l[i]?=some y→Rd w e y u→Rd w e y.deNil u
  | x :: xs,0,y,u,h,hr=>by simp at h; subst h; exact Rd.deNil x hr
  | x :: xs,i + 1,y,u,h,hr=>Rd.deNilL xs i y u (by simpa using h) hr
  | [],i,y,u,h,_=>by simp at h
end
theorem Le.deNil {s:St}:Le s { s with tmps:=mapV AV.deNil s.tmps }:=by
  intro a w e hc
  refine ⟨e,⟨hc.sim,hc.defers,hc.size,fun t x hx=>?_⟩,Fr.refl w e⟩
  simp only [look_mapV] at hx
  obtain ⟨y,hy,rfl⟩:=Option.map_eq_some_iff.1 hx
  obtain ⟨v,h1,h2⟩:=hc.tmp t y hy
  exact ⟨v,h1,Rd.deNil y h2⟩
def endB (dn : Bool) (ex : List (Nat × Nat)) (s : St) : Option (AV × List (Nat × Obj)) :=
  match expOk ex s.objs with
  | false=>none
  | true=>match look 0 s.tmps with
    | none=>none
    | some y=>some ((if dn then y.deNil else y).ren (expName ex),expObjs (expName ex) s.objs ex)
def endA (Γ : TypeId → Option TI) (rs : List ResultVar) (dn : Bool) (fz : List Nat) (ex : List (Nat × Nat)) (st : St) : Option (AV × List (Nat × Obj)) :=
  match resultsA Γ st rs with
  | none=>none
  | some x=>match St.freezes ⟨1,[(0,x)],st.objs⟩ fz with
    | none=>none
    | some s1=>match (spare s1.objs (ex.map fun y=>(y.2,Obj.mp true (.bool false) []))).all unp with
      | false=>none
      | true=>endB dn ex (s1.killIds (spare s1.objs (ex.map fun y=>(y.2,Obj.mp true (.bool false) []))))
theorem endA_done {rs : List ResultVar} {dn : Bool} {fz : List Nat} {ex : List (Nat × Nat)} {st : St} {r : AV} {o : List (Nat × Obj)} {R : AV → List (Nat × Obj) → Prop} (h : endA Γ rs dn fz ex st = some (r, o)) (hR : R r o) : Done Γ rs R st := by
  unfold endA at h
  split at h
  · cases h
  · rename_i x hx
    split at h
    · cases h
    · rename_i s1 h1
      split at h
      · cases h
      · rename_i hu
        have hle:Le ⟨1,[(0,x)],st.objs⟩ (s1.killIds (spare s1.objs (ex.map fun y=>(y.2,Obj.mp true (.bool false) [])))):=(Le.freezes h1).trans (Le.kill (by simpa using hu))
        generalize s1.killIds (spare s1.objs (ex.map fun y=>(y.2,Obj.mp true (.bool false) [])))=s2 at h hle
        unfold endB at h
        split at h
        · cases h
        · rename_i hk
          split at h
          · cases h
          · rename_i y hy
            simp only [Option.some.injEq,Prod.mk.injEq] at h
            obtain ⟨rfl,rfl⟩:=h
            cases dn with
            | false=>exact ⟨x,_,y,ex,hx,hle,hy,hk,hR⟩
            | true=>exact ⟨x,_,y.deNil,ex,hx,hle.trans Le.deNil,by simp only [look_mapV,hy,Option.map_some],hk,hR⟩
theorem EndQ.r {rs:List ResultVar} {R:AV→List (Nat×Obj)→Prop} {st:St} (dn:Bool) (fz:List Nat) (ex:List (Nat×Nat)) {r:AV} {o:List (Nat×Obj)} (h:endA Γ rs dn fz ex st=some (r,o)) (hR:R r o):EndQ Γ rs R .ret st:=endA_done h hR
theorem EndQ.n {rs:List ResultVar} {R:AV→List (Nat×Obj)→Prop} {st:St} (dn:Bool) (fz:List Nat) (ex:List (Nat×Nat)) {r:AV} {o:List (Nat×Obj)} (h:endA Γ rs dn fz ex st=some (r,o)) (hR:R r o):EndQ Γ rs R .normal st:=endA_done h hR
theorem ACalls.lenA {f:FuncId} {args:List AV} {objs:List (Nat×Obj)} {R:AV→List (Nat×Obj)→Prop} {l xs:List AV} (hm:AV.agg xs∈args) (hx:AV.imm l∈xs) (hf:Callable P f) (h:l.length≤maxLen→ACalls P f args objs R):ACalls P f args objs R:=by
  refine ⟨hf,fun w e vals h1 h2 h3=>?_⟩
  obtain ⟨i,hi⟩:=List.mem_iff_getElem?.1 hm
  have hlt:i < vals.size:=by rw [h2]; exact (List.getElem?_eq_some_iff.1 hi).1
  obtain ⟨vs,_,hs,hr⟩:=(h3 i _ vals[i] hi (Array.getElem?_eq_getElem hlt)).agg_inv
  obtain ⟨j,hj⟩:=List.mem_iff_getElem?.1 hx
  have hjlt:j < vs.size:=by rw [hs]; exact (List.getElem?_eq_some_iff.1 hj).1
  exact (h (hr j _ vs[j] hj (Array.getElem?_eq_getElem hjlt)).imm_len).run w e vals h1 h2 h3
theorem Sim.setBs {w:World} {e:Env} {objs:List (Nat×Obj)} (h:Sim w e objs) (n:Nat):Sim w { e with bs:=n } objs:=
  ⟨h.dom,h.inj,fun id o m ho hm=>by
    have:=(h.obj id o m ho hm).ren (e':={ e with bs:=n }) (fun i=>i) (fun id m _ hg=>⟨m,hg,m.same_refl⟩) (.inl fun b hb _=>⟨rfl,hb⟩) (Nat.le_refl _) ⟨rfl,rfl,rfl⟩ (fun _ _=>rfl)
    rwa [men_ren_id] at this,h.prok,h.new⟩
theorem Rd.setBs {w:World} {e:Env} {x:AV} {v:Value} (h:Rd w e x v) (n:Nat):Rd w { e with bs:=n } x v:=Rd.evolve (e:=e) (e':={ e with bs:=n }) (fun b hb _=>⟨rfl,hb⟩) h (fun _ _=>rfl)
theorem ACalls.post {f:FuncId} {args:List AV} {objs:List (Nat×Obj)} {R R' : AV→List (Nat×Obj)→Prop} (h:ACalls P f args objs R) (hR:∀ r o,R r o→∃ st2 y,Le ⟨1,[(0,r)],o⟩ st2∧look 0 st2.tmps=some y∧R' y st2.objs):ACalls P f args objs R':=by
  refine ⟨h.able,fun w e vals h1 h2 h3=>(h.run w e vals h1 h2 h3).mono ?_⟩
  rintro en w' ⟨v,res,objs',e',rfl,k1,k2,k3,k4⟩
  obtain ⟨st2,y,g1,g2,g3⟩:=hR res objs' k1
  have hc:Conc ⟨1,[(0,res)],objs'⟩ { tmps:=#[v],defers:=[] } w' { e' with bs:=0 }:=by
    refine ⟨k2.setBs 0,Marks.nil (Nat.zero_le _),rfl,fun t z hz=>?_⟩
    simp only [look] at hz
    split at hz
    · rename_i ht; subst ht; cases hz; exact ⟨v,rfl,k4.setBs 0⟩
    · cases hz
  obtain ⟨e2,c2,f2⟩:=g1 _ _ _ hc
  obtain ⟨v',hv',h5⟩:=c2.tmp 0 y g2
  have hvv:v'=v:=by simpa using hv'.symm
  subst hvv
  have f3:Fr w' e' w' { e2 with bs:=e'.bs }:=⟨f2.os,f2.tape,f2.output,f2.size,f2.blk,f2.own,by rw [show ({ e2 with bs:=e'.bs }:Env).pr=e'.pr from f2.pr],⟨f2.pins.pin,f2.pins.ext⟩⟩
  exact ⟨v',y,st2.objs,{ e2 with bs:=e'.bs },rfl,g3,c2.sim.setBs _,k3.trans f3,h5.setBs _⟩
theorem ACalls.frzs (l:List Nat) {f:FuncId} {args:List AV} {objs:List (Nat×Obj)} {r:AV} {o:List (Nat×Obj)} {st2:St} {y:AV} (h:ACalls P f args objs (fun r' o'=>r'=r∧o'=o)) (hs:St.freezes ⟨1,[(0,r)],o⟩ l=some st2) (hy:look 0 st2.tmps=some y) :
    ACalls P f args objs (fun r o=>r=y∧o=st2.objs):=
  h.post fun r' o' ⟨h1,h2⟩=>by subst h1; subst h2; exact ⟨st2,y,Le.freezes hs,hy,rfl,rfl⟩
theorem ACalls.enter [M : Mode] (hΓ : TOk P Γ) {f : FuncId} {fn : Func} {c : Code} (hf : P.funcs[f]? = some fn) (hb : fn.body = some c) (hnm : (fn.name == "runtime.NumGoroutine") = false) {nt : Nat} (hnt : fn.ntmps = nt) {rs : List ResultVar} (hrs : fn.results.toList = rs) {args : List AV} {objs : List (Nat × Obj)} {R : AV → List (Nat × Obj) → Prop}
    (hn:args.length≤nt) {st:St} (hst:St.enter nt args objs=st) (h:W P c st (EndQ Γ rs R)):ACalls P f args objs R:=by
  subst hnt; subst hrs; subst hst
  exact ACalls.of_W hΓ hf hb hnm hn h
end
attribute [simp] Value.cells drawN St.ownNilO selT St.keep runK runL runN dropO holdsO keysIn spare St.freezes AV.deNil AV.deNilL endA endB
end Go.Sim
namespace Go.Sim
open Go.RowKit
section
variable {P:Program} {Γ:TypeId→Option TI}
def selB (deps:List (List Nat)) (k:Nat):List Bool:=(List.range k).map fun i=>(deps.getD k []).contains i
def mkStB:List Bool→List REnt→St→St
  | true :: bs,e :: r,s=>mkStB bs r (e.add s)
  | false :: bs,_ :: r,s=>mkStB bs r s
  | _,_,s=>s
theorem mkSt_B (sel:Nat→Bool):∀ (ents:List REnt) (b:Nat) (s:St),mkSt sel b ents s=mkStB ((List.range' b ents.length).map sel) ents s
  | [],b,s=>rfl
  | e :: r,b,s=>by
    rw [mkSt,List.length_cons,List.range'_succ,List.map_cons,mkSt_B sel r (b + 1)]
    cases sel b with
    | true=>rfl
    | false=>rfl
def viewB (L:List Nat) (S:List Bool) (O:List Nat) (ents:List REnt) (s0:St):St:=
  let s:=mkStB S ents { s0 with tmps:=dels L s0.tmps }
  { s with objs:=delAll O s.objs }
def chkV (ops:List Oper) (deps:List (List Nat)) (eff:List (Nat×List Nat)) (k:Nat) (L:List Nat) (S:List Bool) (O:List Nat):Bool:=
  decide (badFrom deps k 0 ops=L) && decide (selB deps k=S) && decide (badObjs deps k eff=O)
theorem viewB_eq {ops:List Oper} {deps:List (List Nat)} {eff:List (Nat×List Nat)} {s0 v:St} {k:Nat} {ents:List REnt} {L:List Nat} {S:List Bool} {O:List Nat} (hc:chkV ops deps eff k L S O=true) (hn:ents.length=k)
    (hv:viewB L S O ents s0=v):viewSt ops deps eff s0 k ents=v:=by
  simp only [chkV,Bool.and_eq_true,decide_eq_true_eq] at hc
  obtain ⟨⟨rfl,rfl⟩,rfl⟩:=hc
  rw [← hv]
  unfold viewSt viewB selB
  rw [mkSt_B,hn,List.range_eq_range']
noncomputable def drawB (Γ:TypeId→Option TI) (s0:St):List (List Nat×List Bool×List Nat)→List Oper→List REnt→Option (List Oper×List REnt)
  | [],rest,ents=>some (rest,ents)
  | _ :: _,[],_=>none
  | (L, S, O) :: T, o :: rest, ents => match o.guard with
    | some _=>none
    | none=>match evalQ Γ o (viewB L S O ents s0) with
      | some (r,new)=>match newIn o (viewB L S O ents s0) new with
        | true=>drawB Γ s0 T rest (ents ++ [⟨o.dst,r,new⟩])
        | false=>none
      | none=>none
def chkT (ops:List Oper) (deps:List (List Nat)) (eff:List (Nat×List Nat)):Nat→List (List Nat×List Bool×List Nat)→Bool
  | _,[]=>true
  | k,(L,S,O) :: T=>chkV ops deps eff k L S O && chkT ops deps eff (k + 1) T
theorem WDraw.nB (hΓ : TOk P Γ) {ops : List Oper} {deps : List (List Nat)} {eff : List (Nat × List Nat)} {s0 : St} {K : DrawK} {m : Nat} : ∀ (T : List (List Nat × List Bool × List Nat)) {rest rest' : List Oper} {k k' : Nat} {ents ents' : List REnt} {N : Nat},
    N=m + T.length→k'=k + T.length→chkT ops deps eff k T=true→ents.length=k→drawB Γ s0 T rest ents=some (rest',ents')→WDraw P ops deps eff s0 K m rest' k' ents'→WDraw P ops deps eff s0 K N rest k ents
  | [],rest,rest',k,k',ents,ents',N,hN,hk,_,_,hr,h=>by cases hr; subst hN; subst hk; exact h
  | (L,S,O) :: T,[],rest',k,k',ents,ents',N,_,_,_,_,hr,_=>by cases hr
  | (L, S, O) :: T, o :: rest, rest', k, k', ents, ents', N, hN, hk, hc, hn, hr, h => by
    simp only [chkT,Bool.and_eq_true] at hc
    simp only [drawB] at hr
    split at hr
    · cases hr
    · rename_i hg
      split at hr
      · rename_i r new hq
        split at hr
        · rename_i hnew
          have hv:=viewB_eq (s0:=s0) hc.1 hn rfl
          have e:N=(m + T.length) + 1:=by rw [hN,List.length_cons]; omega
          subst e
          refine ⟨true,by simp [wantedA,hg], ?_⟩
          simp only [if_true]
          rw [hv]
          exact ⟨r,new,evalQ_ok hΓ hq hnew,fun x hx=>.inl (newIn_all hnew x hx).1,WDraw.nB hΓ T rfl (by rw [hk,List.length_cons]; omega) hc.2 (by simp [hn]) hr h⟩
        · cases hr
      · cases hr
/-! ### operations that are left out, many at once -/
def entR:List REnt→Nat→AV
  | [],_=>.dead
  | e :: _,0=>e.r
  | _ :: r,n + 1=>entR r n
def entD:List REnt→Nat→Option Nat
  | [],_=>none
  | e :: _,0=>e.dst
  | _ :: r,n + 1=>entD r n
def isD (o:Option Nat) (d:Nat):Bool:=match o with
  | some x=>Nat.beq x d
  | none=>false
def uniqD (d g:Nat):Nat→List REnt→Bool
  | _,[]=>true
  | j,e :: r=>(!(isD e.dst d) || Nat.beq j g) && uniqD d g (j + 1) r
def chkR (d g:Nat) (b:Bool):List (Option Nat)→List Oper→Bool
  | [],_=>true
  | t :: ds,o :: rest=>decide (o.guard=some (g,b)) && decide (o.dst=t) && !(isD t d) && chkR d g b ds rest
  | _,[]=>false
def chkD (deps:List (List Nat)) (g:Nat):Nat→Nat→Bool
  | _,0=>true
  | k,m + 1=>(deps.getD k []).contains g && chkD deps g (k + 1) m
theorem entR_get:∀ {l:List REnt} {i d:Nat},entD l i=some d→∃ e,l[i]?=some e∧e.dst=some d∧e.r=entR l i
  | [],i,d,h=>by cases h
  | e :: r,0,d,h=>⟨e,rfl,h,rfl⟩
  | e :: r,n + 1,d,h=>by
    obtain ⟨e',h1,h2,h3⟩:=entR_get (l:=r) (i:=n) h
    exact ⟨e',by simpa using h1,h2,h3⟩
theorem uniqD_ok {d g:Nat}:∀ {l:List REnt} {j:Nat},uniqD d g j l=true→∀ i e,l[i]?=some e→e.dst=some d→j + i=g
  | [],j,_,i,e,h,_=>by simp at h
  | e0 :: r,j,hu,i,e,h,hd=>by
    simp only [uniqD,Bool.and_eq_true,Bool.or_eq_true,Bool.not_eq_true'] at hu
    cases i with
    | zero =>
      simp at h; subst h
      rcases hu.1 with h1 | h1
      · simp [isD,hd] at h1
      · simpa using Nat.eq_of_beq_eq_true h1
    | succ i =>
      have:=uniqD_ok hu.2 i e (by simpa using h) hd
      omega
theorem WDraw.offs {ops : List Oper} {deps : List (List Nat)} {eff : List (Nat × List Nat)} {s0 : St} {K : DrawK} {n d g : Nat} {b : Bool} {u : Value} (ho : (ops[g]?).bind (·.dst) = some d) (hx : isB b u = false) : ∀ (ds : List (Option Nat)) {rest : List Oper} {k : Nat} {ents : List REnt} {N : Nat},
    N=n + ds.length→(∀ i e,ents[i]?=some e→e.dst=some d→i=g)→(∃ e,ents[g]?=some e∧e.dst=some d∧e.r = .val u)→chkR d g b ds rest=true→chkD deps g k ds.length=true →
    WDraw P ops deps eff s0 K n (rest.drop ds.length) (k + ds.length) (ents ++ ds.map fun t=>⟨t,.val undef,[]⟩)→WDraw P ops deps eff s0 K N rest k ents
  | [],rest,k,ents,N,hN,_,_,_,_,h=>by subst hN; simpa using h
  | t :: ds,[],k,ents,N,_,_,_,hr,_,_=>by simp [chkR] at hr
  | t :: ds, o :: rest, k, ents, N, hN, hu, he, hr, hd, h => by
    simp only [chkR,Bool.and_eq_true,decide_eq_true_eq,Bool.not_eq_true'] at hr
    obtain ⟨⟨⟨h1,h2⟩,h3⟩,h4⟩:=hr
    simp only [List.length_cons,chkD,Bool.and_eq_true] at hd
    obtain ⟨e,q1,q2,q3⟩:=he
    have e1:N=(n + ds.length) + 1:=by rw [hN,List.length_cons]; omega
    subst e1
    have hat:(viewSt ops deps eff s0 k ents).at d = .val u:=by
      have:=mkSt_tmp_some (fun i=>(deps.getD k []).contains i) d ents 0 { s0 with tmps:=dels (badFrom deps k 0 ops) s0.tmps } g e hu q1 q2 (by rw [Nat.zero_add]; exact hd.1)
      unfold viewSt St.at
      simp only [this,Option.getD_some,q3]
    refine ⟨false,wantedOf (d:=d) (b:=b) (by simp [guardD,h1,ho]) hat hx, ?_⟩
    simp only [Bool.false_eq_true,if_false]
    refine ⟨.val undef,.inr rfl, ?_⟩
    have hlt:g < ents.length:=(List.getElem?_eq_some_iff.1 q1).1
    refine WDraw.offs ho hx ds rfl (fun i e' hi hd'=>?_) ⟨e,by rw [List.getElem?_append_left hlt]; exact q1,q2,q3⟩ h4 hd.2 ?_
    · by_cases hil:i < ents.length
      · rw [List.getElem?_append_left hil] at hi; exact hu i e' hi hd'
      · rw [List.getElem?_append_right (by omega)] at hi
        cases hj:i - ents.length with
        | zero =>
          rw [hj] at hi; simp at hi; subst hi
          simp only at hd'
          rw [h2] at hd'
          rw [hd'] at h3; simp [isD] at h3
        | succ j=>rw [hj] at hi; simp at hi
    · rw [h2]
      have e2:k + 1 + ds.length=k + (t :: ds).length:=by rw [List.length_cons]; omega
      rw [e2,List.append_assoc]
      exact h
theorem WDraw.off {ops rest rest' : List Oper} {deps:List (List Nat)} {eff:List (Nat×List Nat)} {s0:St} {K:DrawK} {n d g k:Nat} {b:Bool} {u:Value} {ents:List REnt} {N:Nat} (ds:List (Option Nat)) (hN:N=n + ds.length) (ho:(ops[g]?).bind (·.dst)=some d) (hr:chkR d g b ds rest=true)
    (hd:chkD deps g k ds.length=true) (hu:uniqD d g 0 ents=true) (hE:entD ents g=some d) (hv:entR ents g = .val u) (hx:isB b u=false) (hrest:rest.drop ds.length=rest')
    (h:WDraw P ops deps eff s0 K n rest' (k + ds.length) (ents ++ ds.map fun t=>⟨t,.val undef,[]⟩)):WDraw P ops deps eff s0 K N rest k ents:=by
  subst hrest
  obtain ⟨e,q1,q2,q3⟩:=entR_get hE
  exact WDraw.offs ho hx ds hN (fun i e hi hd=>by have:=uniqD_ok hu i e hi hd; omega) ⟨e,q1,q2,q3.trans hv⟩ hr hd h
end
attribute [simp] mkStB viewB drawB
end Go.Sim
