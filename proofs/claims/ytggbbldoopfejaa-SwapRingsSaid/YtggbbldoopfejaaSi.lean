/- The weakest precondition over abstract states; regions in the text's order; code. -/
import Derived.Test.YtggbbldoopfejaaSh
import Derived.OrdersIn
import Derived.Scope
import Derived.RangeFuncLeaves
namespace Go.Sim
open Go.RowKit
section
variable {P : Program} {Γ : TypeId → Option TI}

/-! ### every function, any depth; in a round of a range over a function, or not -/
def FR (rd : Option Nat) : Fence := { fn := fun _ => True, depth := none, alive := false, round := rd }
theorem FR_none : FR none = Fence.wide := rfl
theorem FR_room (rd : Option Nat) (n : Nat) : (FR rd).room n := fun _ h => by cases h
theorem callsIn_FR {rd : Option Nat} {f : FuncId} {args : Array Value} {w : World} {R : Ending → World → Prop} (h : Calls P f args w R) : CallsIn (FR rd) 0 P f args w R := by
  have h1 : CallsIn Fence.wide 0 P f args w R := callsIn_wide.2 h
  cases rd with
  | none => exact h1
  | some l => exact h1

theorem semAt_ok {o : Oper} {ro : Option Nat} {ρ : Operand → Value} {w w' : World} {x : Next} (h : (execOp ρ o).run P w = .ok x w') (hx : ∀ d, x ≠ .defer d) : (Oper.semAt ro ρ o).run P w = .ok x w' := by
  unfold Oper.semAt
  split
  · rename_i l c hc
    exfalso
    simp only [execOp, hc, Sem.run_bind] at h
    cases hr : (resolve ρ c o.type).run P w with
    | ok d w1 => rw [hr] at h; simp at h; exact hx d h.1.symm
    | halt a b => rw [hr] at h; simp [Result.andThen] at h
  · exact h

/-! ### operations with what comes behind them -/
def OpSem (P : Program) (o : Oper) (st' : St) (r : AV) (a : Act) (w : World) (e : Env) : Prop :=
  ∀ (rd : Option Nat) (next : Act → World → Prop) (Q : Exit → Act → World → Prop), (∀ v w' e', Conc st' a w' e' → Fr w e w' e' → Rd w' e' r v → next (a.put o.dst v) w') → o.wpIn (FR rd) 0 P a w next Q

theorem OpOk.sem {o : Oper} {st' : St} {r : AV} {a : Act} {w : World} {e : Env} (h : OpOk P o st' r a w e) : OpSem P o st' r a w e := by
  intro rd next Q hn
  obtain ⟨v, w', e', hs, hc, hf, hr⟩ := h
  refine ⟨fun _ _ => trivial, ?_⟩
  rcases hs with hs | ⟨hs, rfl⟩
  · rw [semAt_ok hs (by simp)]; exact hn v w' e' hc hf hr
  · rw [semAt_ok hs (by simp)]; exact hn _ w' e' hc hf hr

def WOp (P : Program) (o : Oper) (st : St) (K : AV → St → Prop) : Prop :=
  ∀ rd a w e, Conc st a w e → ∀ (next : Act → World → Prop) (Q : Exit → Act → World → Prop),
    (∀ r st' v w' e', K r st' → Conc st' a w' e' → Fr w e w' e' → Rd w' e' r v → next (a.put o.dst v) w') → o.wpIn (FR rd) 0 P a w next Q

theorem WOp.mono {o : Oper} {st : St} {K K' : AV → St → Prop} (h : WOp P o st K) (hk : ∀ r s, K r s → K' r s) : WOp P o st K' :=
  fun rd a w e hc next Q hn => h rd a w e hc next Q fun r st' v w' e' h1 => hn r st' v w' e' (hk r st' h1)

theorem WOp.eval (hΓ : TOk P Γ) {o : Oper} {st st' : St} {r : AV} {K : AV → St → Prop} (hr : evalAll Γ o st = some (r, st')) (h : K r st') : WOp P o st K :=
  fun rd a w e hc next Q hn => (evalAll_ok hΓ hr hc).sem rd next Q fun v w' e' h1 h2 h3 => hn r st' v w' e' h h1 h2 h3

def isB (b : Bool) : Value → Bool
  | .bool t => t == b
  | _ => false
@[simp] theorem isB_bool (b t : Bool) : isB b (.bool t) = (t == b) := rfl
@[simp] theorem isB_undef (b : Bool) : isB b undef = false := rfl
/-- is the operation carried out -/
def wantedA (ops : List Oper) (o : Oper) (st : St) : Option Bool :=
  match o.guard with
  | none => some true
  | some (g, b) => match (ops[g]?).bind (·.dst) with
    | some d => match st.at d with
      | .val v => some (isB b v)
      | _ => none
    | none => none

theorem wantedA_ok {ops : Array Oper} {o : Oper} {st : St} {t : Bool} (h : wantedA ops.toList o st = some t) {a : Act} {w : World} {e : Env} (hc : View st a w e) : Region.wanted o (yielded ops a.tmps) = t := by
  unfold wantedA at h
  unfold Region.wanted
  split at h
  · rename_i hg; cases h; simp [hg]
  · rename_i g b hg
    split at h
    · rename_i d hd
      split at h
      · rename_i u hu
        cases h
        have h1 := hc.ev (.tmp d)
        simp only [St.ev, hu] at h1
        have e1 := h1.val_inv
        simp only [Act.eval] at e1
        have hd' : (ops[g]?).bind (·.dst) = some d := by simpa using hd
        simp only [hg, yielded, hd', Option.bind_some]
        rw [Array.getD_eq_getD_getElem?] at e1
        cases hv : a.tmps[d]? with
        | none => rw [hv] at e1; obtain rfl : undef = u := e1; rfl
        | some v =>
          rw [hv] at e1; obtain rfl : v = u := by simpa using e1
          cases v with
          | bool t => cases t <;> cases b <;> rfl
          | _ => rfl
      · cases h
    · cases h

def dstOk (o : Oper) (st : St) : Bool := match o.dst with
  | some d => decide (d < st.nt)
  | none => true

def WOps (P : Program) (ops : List Oper) (K : St → Prop) : List Oper → St → Prop
  | [], st => K st
  | o :: rest, st => dstOk o st = true ∧ ∃ t, wantedA ops o st = some t ∧ if t then WOp P o st (fun r st' => WOps P ops K rest (st'.put o.dst r)) else ∃ y, (y = .dead ∨ y = .val undef) ∧ WOps P ops K rest (st.put o.dst y)

theorem put_nt (st : St) (d : Option Tmp) (x : AV) : (st.put d x).nt = st.nt := by cases d <;> rfl

theorem WOps.sound {rd : Option Nat} {ops : Array Oper} {K : St → Prop} {w0 : World} {e0 : Env} {Q : Exit → Act → World → Prop} (hQ : ∀ st a w e, Conc st a w e → Fr w0 e0 w e → K st → Q .normal a w) : ∀ (l : List Oper) (k : Nat) (st : St) (a : Act) (w : World) (e : Env),
    (∀ j, l[j]? = ops[k + j]?) → Conc st a w e → Fr w0 e0 w e → WOps P ops.toList K l st → wpOpsIn (FR rd) 0 P ops Q (List.range' k l.length) a w
  | [], k, st, a, w, e, _, hc, hf, h => hQ st a w e hc hf h
  | o :: l, k, st, a, w, e, hl, hc, hf, h => by
    obtain ⟨hd, t, hw, h⟩ := h
    have ho : ops[k]? = some o := by have := hl 0; simpa using this.symm
    have hl' : ∀ j, l[j]? = ops[k + 1 + j]? := fun j => by have := hl (j + 1); rw [show k + 1 + j = k + (j + 1) from by omega]; simpa using this
    have hdd : ∀ d, o.dst = some d → d < st.nt := fun d hd' => by simp only [dstOk, hd', decide_eq_true_eq] at hd; exact hd
    rw [List.length_cons, List.range'_succ]
    simp only [wpOpsIn, ho]
    rw [wantedA_ok hw hc.view]
    cases t with
    | true =>
      simp only [if_true] at h ⊢
      exact (h rd a w e hc _ _ fun r st' v w' e' hK hc' hf' hr' => WOps.sound hQ l (k + 1) _ _ _ e' hl' (hc'.put hr' (fun d hd' => by rw [← hc'.size, hc.size]; exact hdd d hd')) (hf.trans hf') hK)
    | false =>
      simp only [Bool.false_eq_true, if_false] at h ⊢
      obtain ⟨y, hy, h⟩ := h
      exact ⟨fun _ _ => trivial, WOps.sound hQ l (k + 1) _ _ _ e hl' (hc.put (v := undef) (by rcases hy with rfl | rfl; exact .dead _; exact .data (.val _)) hdd) hf h⟩

/-! ### code -/
/-- where code runs: anywhere, or outside of rounds alone -/
class Mode where
  T : Type
  f : T → Option Nat
  out : T
  hout : f out = none
instance anyMode : Mode := ⟨Option Nat, fun x => x, none, rfl⟩
abbrev outMode : Mode := ⟨Unit, fun _ => none, (), rfl⟩
def W [M : Mode] (P : Program) (c : Code) (st : St) (Q : Exit → St → Prop) : Prop :=
  ∀ (rd : M.T) a w e, Conc st a w e → c.wpIn (FR (M.f rd)) 0 P (fun x a' w' => ∃ st' e', Conc st' a' w' e' ∧ Fr w e w' e' ∧ Q x st') a w

def thenQ (K : St → Prop) (Q : Exit → St → Prop) : Exit → St → Prop
  | .normal, st => K st
  | x, st => Q x st
def blockQ (id : Nat) (Q : Exit → St → Prop) : Exit → St → Prop
  | .exit id', st => if id' = id then Q .normal st else Q (.exit id') st
  | x, st => Q x st

theorem W.mono [M : Mode] {c : Code} {st : St} {Q Q' : Exit → St → Prop} (h : W P c st Q) (hq : ∀ x s, Q x s → Q' x s) : W P c st Q' :=
  fun rd a w e hc => wpIn_mono (h rd a w e hc) fun x _ _ ⟨s, e', h1, h2, h3⟩ => ⟨s, e', h1, h2, hq x s h3⟩

theorem W.region [M : Mode] {id : Nat} {ops : Array Oper} {st : St} {Q : Exit → St → Prop} (h : WOps P ops.toList (Q .normal) ops.toList st) : W P (.region id ops false) st Q := by
  intro rd a w e hc
  refine wpIn_region ?_
  have := WOps.sound (P := P) (rd := M.f rd) (ops := ops) (K := Q .normal) (w0 := w) (e0 := e) (Q := fun x a' w' => ∃ st' e', Conc st' a' w' e' ∧ Fr w e w' e' ∧ Q x st') (fun st a w' e' h1 h2 h3 => ⟨st, e', h1, h2, h3⟩) ops.toList 0 st a w e (fun j => by simp) hc (Fr.refl w e) h
  rw [← List.range_eq_range'] at this
  simpa using this

theorem W.skip [M : Mode] {st : St} {Q : Exit → St → Prop} (h : Q .normal st) : W P .skip st Q := fun rd a w e hc => wpIn_skip ⟨st, e, hc, Fr.refl w e, h⟩
theorem W.label [M : Mode] {l : Nat} {st : St} {Q : Exit → St → Prop} (h : Q .normal st) : W P (.label l) st Q := fun rd a w e hc => wpIn_label ⟨st, e, hc, Fr.refl w e, h⟩
theorem W.exit [M : Mode] {id : Nat} {st : St} {Q : Exit → St → Prop} (h : Q (.exit id) st) : W P (.exit id) st Q := fun rd a w e hc => wpIn_exit ⟨st, e, hc, Fr.refl w e, h⟩
theorem W.goto [M : Mode] {l : Nat} {st : St} {Q : Exit → St → Prop} (h : Q (.goto l) st) : W P (.goto l) st Q := fun rd a w e hc => wpIn_goto ⟨st, e, hc, Fr.refl w e, h⟩
theorem W.ret [M : Mode] {st : St} {Q : Exit → St → Prop} (h : Q .ret st) : W P .ret st Q := fun rd a w e hc => wpIn_ret ⟨st, e, hc, Fr.refl w e, h⟩

theorem W.seq [M : Mode] {x y : Code} {st : St} {Q : Exit → St → Prop} (h : W P x st (thenQ (fun s => W P y s Q) Q)) : W P (.seq x y) st Q := by
  intro rd a w e hc
  refine wpIn_seq (wpIn_mono (h rd a w e hc) ?_)
  rintro ex a' w' ⟨s, e', h1, h2, h3⟩
  cases ex with
  | normal => exact wpIn_mono (h3 rd a' w' e' h1) fun x _ _ ⟨s2, e2, g1, g2, g3⟩ => ⟨s2, e2, g1, h2.trans g2, g3⟩
  | exit id => exact ⟨s, e', h1, h2, h3⟩
  | goto l => exact ⟨s, e', h1, h2, h3⟩
  | ret => exact ⟨s, e', h1, h2, h3⟩
  | panic ch => exact ⟨s, e', h1, h2, h3⟩
  | outgrown => exact ⟨s, e', h1, h2, h3⟩

theorem W.cond [M : Mode] {c : Operand} {x y : Code} {st : St} {t : Bool} {Q : Exit → St → Prop} (hv : st.ev c = .val (.bool t)) (h : W P (if t then x else y) st Q) : W P (.cond c x y) st Q := by
  intro rd a w e hc
  have h1 := hc.ev c
  rw [hv] at h1
  exact wpIn_cond h1.val_inv (h rd a w e hc)

theorem W.block [M : Mode] {id : Nat} {c : Code} {st : St} {Q : Exit → St → Prop} (h : W P c st (blockQ id Q)) : W P (.block id c) st Q := by
  intro rd a w e hc
  refine wpIn_block (wpIn_mono (h rd a w e hc) ?_)
  rintro ex a' w' ⟨s, e', h1, h2, h3⟩
  cases ex with
  | exit id' =>
    simp only [Exit.inBlock]
    simp only [blockQ] at h3
    split at h3
    · rename_i hid; rw [if_pos hid]; exact ⟨s, e', h1, h2, h3⟩
    · rename_i hid; rw [if_neg hid]; exact ⟨s, e', h1, h2, h3⟩
  | _ => exact ⟨s, e', h1, h2, h3⟩

/-- code with labels to which nobody jumps -/
def noGotoQ (Q : Exit → St → Prop) : Exit → St → Prop
  | .goto _, _ => False
  | x, st => Q x st
theorem stepR_scope' {b : Frame} {a : Act} {k : List Item} {cs : List Frame} {w : World} {c : Code} : step P (lone (b.atR a (.code (.scope c) :: k)) cs w) = .next (lone (b.atR a (.code c :: .inScope c :: k)) cs w) :=
  step_lone_go (by simp [stepG, stepG.exec, Frame.atR])
theorem stepR_inScope' {b : Frame} {a : Act} {k : List Item} {cs : List Frame} {w : World} {c : Code} : step P (lone (b.atR a (.inScope c :: k)) cs w) = .next (lone (b.atR a k) cs w) :=
  step_lone_go (by simp [stepG, stepG.exec, Frame.atR])
theorem wpIn_scope {F : Fence} {n : Nat} {c : Code} {Q : Exit → Act → World → Prop} {a : Act} {w : World} (h : c.wpIn F n P (Exit.noGoto Q) a w) : (Code.scope c).wpIn F n P Q a w := by
  intro b k cs hro hb hr
  have h0 : (lone (b.atR a (.code (.scope c) :: k)) cs w).fenced P F := fenced_calm hb hr rfl
  obtain ⟨e, a₁, w₁, hq, harr⟩ := h b (.inScope c :: k) cs hro hb hr
  cases e with
  | normal => exact ⟨.normal, a₁, w₁, hq, .head h0 stepR_scope' (StepsIn.trans harr (.one (fenced_calm hb hr rfl) stepR_inScope'))⟩
  | exit id =>
    have hx : exitTo id (.inScope c :: k) = exitTo id k := by simp [exitTo]
    exact ⟨.exit id, a₁, w₁, hq, fun k' hk => .head h0 stepR_scope' (harr.1 k' (by rw [hx]; exact hk)), fun hr' hk => let ⟨k₁, h1, h2⟩ := harr.2 hr' (by rw [hx]; exact hk); ⟨k₁, h1, .head h0 stepR_scope' h2⟩⟩
  | goto l => exact hq.elim
  | ret => exact ⟨_, a₁, w₁, hq, .of_steps (.one h0 stepR_scope') harr⟩
  | panic ch => exact ⟨_, a₁, w₁, hq, .of_steps (.one h0 stepR_scope') harr⟩
  | outgrown => exact ⟨_, a₁, w₁, hq, .of_steps (.one h0 stepR_scope') harr⟩
theorem W.scope [M : Mode] {c : Code} {st : St} {Q : Exit → St → Prop} (h : W P c st (noGotoQ Q)) : W P (.scope c) st Q := by
  intro rd a w e hc
  refine wpIn_scope (wpIn_mono (h rd a w e hc) ?_)
  rintro ex a' w' ⟨s, e', h1, h2, h3⟩
  cases ex with
  | goto l => exact h3.elim
  | _ => exact ⟨s, e', h1, h2, h3⟩

/-- what st says, st' says less of: st' may stand in its place -/
def Le (st st' : St) : Prop := ∀ a w e, Conc st a w e → ∃ e', Conc st' a w e' ∧ Fr w e w e'

theorem Le.refl (st : St) : Le st st := fun _ w e h => ⟨e, h, Fr.refl w e⟩
theorem Le.trans {s1 s2 s3 : St} (h : Le s1 s2) (k : Le s2 s3) : Le s1 s3 := fun a w e hc =>
  let ⟨e1, h1, f1⟩ := h a w e hc; let ⟨e2, h2, f2⟩ := k a w e1 h1; ⟨e2, h2, f1.trans f2⟩

theorem W.weaken [M : Mode] {c : Code} {st st' : St} {Q : Exit → St → Prop} (hl : Le st st') (h : W P c st' Q) : W P c st Q := by
  intro rd a w e hc
  obtain ⟨e', h1, h2⟩ := hl a w e hc
  exact wpIn_mono (h rd a w e' h1) fun x _ _ ⟨s, e2, g1, g2, g3⟩ => ⟨s, e2, g1, h2.trans g2, g3⟩

open Classical in
theorem wpIn_loop_ghost {F : Fence} {n : Nat} {Q : Exit → Act → World → Prop} {a : Act} {w : World} {c : Code} (I : Nat → Act → World → Prop) (n₀ : Nat) (h₀ : I n₀ a w)
    (round : ∀ k a w, I k a w → c.wpIn F n P (Exit.then (fun a' w' => ∃ k', k' < k ∧ I k' a' w') Q) a w) : (Code.loop c).wpIn F n P Q a w := by
  refine wpIn_loop (fun a w => ∃ k, I k a w) (fun a w => leastOf (fun k => I k a w)) ⟨n₀, h₀⟩ ?_
  intro a w hI
  refine wpIn_mono (round _ a w (leastOf_spec hI).1) ?_
  intro e a' w' hq
  cases e with
  | normal =>
    obtain ⟨k', hlt, hI'⟩ := hq
    exact ⟨⟨k', hI'⟩, Nat.lt_of_le_of_lt ((leastOf_spec ⟨k', hI'⟩).2 k' hI') hlt⟩
  | _ => exact hq

theorem W.loop [M : Mode] {c : Code} {st : St} {Q : Exit → St → Prop} (I : Nat → St → Prop) (n : Nat) (h0 : ∃ s, Le st s ∧ I n s)
    (round : ∀ n s, I n s → W P c s (thenQ (fun s' => ∃ n' s'', n' < n ∧ Le s' s'' ∧ I n' s'') Q)) : W P (.loop c) st Q := by
  intro rd a w e hc
  refine wpIn_loop_ghost (fun n a' w' => ∃ s e', I n s ∧ Conc s a' w' e' ∧ Fr w e w' e') n ?_ ?_
  · obtain ⟨s, h1, h2⟩ := h0
    obtain ⟨e', g1, g2⟩ := h1 a w e hc
    exact ⟨s, e', h2, g1, g2⟩
  · rintro n a' w' ⟨s, e', h1, h2, h3⟩
    refine wpIn_mono (round n s h1 rd a' w' e' h2) ?_
    rintro ex a2 w2 ⟨s2, e2, g1, g2, g3⟩
    cases ex with
    | normal =>
      obtain ⟨n', s3, k1, k2, k3⟩ := g3
      obtain ⟨e3, j1, j2⟩ := k2 a2 w2 e2 g1
      exact ⟨n', k1, s3, e3, k3, j1, (h3.trans g2).trans j2⟩
    | exit id => exact ⟨s2, e2, g1, h3.trans g2, g3⟩
    | goto l => exact ⟨s2, e2, g1, h3.trans g2, g3⟩
    | ret => exact ⟨s2, e2, g1, h3.trans g2, g3⟩
    | panic ch => exact ⟨s2, e2, g1, h3.trans g2, g3⟩
    | outgrown => exact ⟨s2, e2, g1, h3.trans g2, g3⟩
#print axioms W.loop
end
end Go.Sim
