/- Rules for proofs that a program prints: states kept small, loops over states of one shape, calls, guards, the end. -/
import Derived.Test.YtggbbldoopfejaaSs
set_option linter.unusedSimpArgs false
set_option linter.unnecessarySimpa false
namespace Go.Sim
open Go.RowKit
section
variable {P : Program} {Γ : TypeId → Option TI}

/-! ### states kept small -/
def selT (tm : List (Nat × AV)) : List Nat → List (Nat × AV)
  | [] => []
  | t :: r => match look t tm with
    | some x => (t, x) :: selT tm r
    | none => selT tm r
def St.keep (s : St) (l : List Nat) : St := { s with tmps := selT s.tmps l }
theorem look_selT {tm : List (Nat × AV)} {t : Nat} {x : AV} : ∀ {l : List Nat}, look t (selT tm l) = some x → look t tm = some x
  | u :: r, h => by
    simp only [selT] at h
    split at h
    · rename_i y hy
      simp only [look] at h
      split at h
      · rename_i hu; subst hu; cases h; exact hy
      · exact look_selT h
    · exact look_selT h
theorem Le.keep {s : St} (l : List Nat) : Le s (s.keep l) := Le.less _ fun _ _ h => look_selT h

theorem W.norm [M : Mode] {c : Code} {st st' : St} {Q : Exit → St → Prop} (h : st = st') (k : W P c st' Q) : W P c st Q := by subst h; exact k
theorem W.keep [M : Mode] {c : Code} {st st' : St} {Q : Exit → St → Prop} (l : List Nat) (h : st.keep l = st') (k : W P c st' Q) : W P c st Q := by subst h; exact W.weaken (Le.keep l) k

/-- a whole region, and what is kept behind it -/
noncomputable def runK (Γ : TypeId → Option TI) (L : List Nat) (ops : List Oper) (st : St) : Option St :=
  match runSeg Γ ops ops st with
  | ([], s) => some (s.keep L)
  | _ => none
theorem W.regK [M : Mode] (hΓ : TOk P Γ) (L : List Nat) {id : Nat} {ops : Array Oper} {y : Code} {st st' : St} {Q : Exit → St → Prop} (hr : runK Γ L ops.toList st = some st') (h : W P y st' Q) : W P (.seq (.region id ops false) y) st Q := by
  unfold runK at hr
  split at hr
  · rename_i s hs
    cases hr
    exact W.seq (W.region (WOps.go hΓ hs rfl (W.weaken (Le.keep L) h)))
  · cases hr
noncomputable def runL (Γ : TypeId → Option TI) (ops : List Oper) (st : St) : Option St :=
  match runSeg Γ ops ops st with
  | ([], s) => some s
  | _ => none
theorem W.regE [M : Mode] (hΓ : TOk P Γ) {id : Nat} {ops : Array Oper} {st st' : St} {Q : Exit → St → Prop} (hr : runL Γ ops.toList st = some st') (h : Q .normal st') : W P (.region id ops false) st Q := by
  unfold runL at hr
  split at hr
  · rename_i s hs
    cases hr
    exact W.region (WOps.go hΓ hs rfl h)
  · cases hr

/-! ### so many operations -/
noncomputable def runN (Γ : TypeId → Option TI) (ops : List Oper) : Nat → List Oper → St → Option (List Oper × St)
  | 0, l, st => some (l, st)
  | _ + 1, [], _ => none
  | n + 1, o :: r, st => match wantedA ops o st with
    | some true => match evalAll Γ o st with
      | some (x, st') => match dstOk o st with
        | true => runN Γ ops n r (st'.put o.dst x)
        | false => none
      | none => none
    | some false => match dstOk o st with
      | true => runN Γ ops n r (st.put o.dst .dead)
      | false => none
    | none => none
theorem WOps.nN (hΓ : TOk P Γ) {ops : List Oper} {K : St → Prop} : ∀ {n : Nat} {l l' : List Oper} {st st' : St}, runN Γ ops n l st = some (l', st') → WOps P ops K l' st' → WOps P ops K l st
  | 0, l, l', st, st', hr, h => by cases hr; exact h
  | n + 1, [], l', st, st', hr, h => by cases hr
  | n + 1, o :: r, l', st, st', hr, h => by
    simp only [runN] at hr
    split at hr
    · rename_i hw
      split at hr
      · rename_i x s1 hev
        split at hr
        · rename_i hd
          exact ⟨hd, true, hw, WOp.eval hΓ hev (WOps.nN hΓ hr h)⟩
        · cases hr
      · cases hr
    · rename_i hw
      split at hr
      · rename_i hd
        exact ⟨hd, false, hw, _, .inl rfl, WOps.nN hΓ hr h⟩
      · cases hr
    · cases hr
theorem WOps.n (hΓ : TOk P Γ) (n : Nat) {ops : List Oper} {K : St → Prop} {l l' : List Oper} {st st' : St} {q : Option (List Oper × St)} (hr : runN Γ ops n l st = q) (hq : q = some (l', st')) (h : WOps P ops K l' st') : WOps P ops K l st := WOps.nN hΓ (hr.trans hq) h

/-- the slot that says whether an operation is carried out -/
def guardD (ops : List Oper) (o : Oper) : Option (Nat × Bool) :=
  match o.guard with
  | none => none
  | some (g, b) => match (ops[g]?).bind (·.dst) with
    | some d => some (d, b)
    | none => none
theorem wantedOf {ops : List Oper} {o : Oper} {st : St} {d : Nat} {b t' : Bool} {u : Value} (h1 : guardD ops o = some (d, b)) (h2 : st.at d = .val u) (h3 : isB b u = t') : wantedA ops o st = some t' := by
  unfold guardD at h1
  unfold wantedA
  split at h1
  · cases h1
  · rename_i g b' hg
    split at h1
    · rename_i d' hd
      cases h1
      rw [hg]
      simp only [hd, h2, h3]
    · cases h1
theorem WOps.opT (hΓ : TOk P Γ) {ops rest : List Oper} {K : St → Prop} {o : Oper} {st st' s2 : St} {r : AV} (hw : wantedA ops o st = some true) (hd : dstOk o st = true) (hev : evalAll Γ o st = some (r, st')) (hs : st'.put o.dst r = s2) (h : WOps P ops K rest s2) : WOps P ops K (o :: rest) st := by
  subst hs; exact ⟨hd, true, hw, by simp only [if_true]; exact WOp.eval hΓ hev h⟩
theorem WDraw.opT (hΓ : TOk P Γ) {ops rest : List Oper} {deps : List (List Nat)} {eff : List (Nat × List Nat)} {s0 v : St} {K : St → Prop} {n k : Nat} {ents ents' : List REnt} {o : Oper} {r : AV} {new : List (Nat × Obj)} (hv : viewSt ops deps eff s0 k ents = v) (hw : wantedA ops o v = some true) (he : evalQ Γ o v = some (r, new)) (hn : newIn o v new = true)
    (hs : ents ++ [⟨o.dst, r, new⟩] = ents') (h : WDraw P ops deps eff s0 K n rest (k + 1) ents') : WDraw P ops deps eff s0 K (n + 1) (o :: rest) k ents := by
  subst hv; subst hs
  exact ⟨true, hw, by simp only [if_true]; exact ⟨r, new, evalQ_ok hΓ he hn, fun x hx => .inl (newIn_all hn x hx).1, h⟩⟩

/-- an operation that may be left out -/
theorem WOps.opG (hΓ : TOk P Γ) {ops rest : List Oper} {K : St → Prop} {o : Oper} {st : St} {t : Bool} {r : AV} (hw : wantedA ops o st = some t) (hn : isWrite o = false) (hd : dstOk o st = true) (hp : t = true → evalP Γ o st = some r)
    (h : WOps P ops K rest (st.put o.dst (if t = true then r else .dead))) : WOps P ops K (o :: rest) st := by
  refine ⟨hd, t, hw, ?_⟩
  cases t with
  | true =>
    simp only [if_true] at h ⊢
    refine WOp.eval hΓ (r := r) (st' := st) ?_ h
    simp only [evalAll, hn, hp rfl]
  | false =>
    simp only [Bool.false_eq_true, if_false] at h ⊢
    exact ⟨_, .inl rfl, h⟩
theorem WOps.skip {ops rest : List Oper} {K : St → Prop} {o : Oper} {st : St} (hw : wantedA ops o st = some false) (hd : dstOk o st = true) (h : WOps P ops K rest (st.put o.dst (.val undef))) : WOps P ops K (o :: rest) st := ⟨hd, false, hw, by simp only [Bool.false_eq_true, if_false]; exact ⟨_, .inr rfl, h⟩⟩
theorem WOps.norm {ops l : List Oper} {K : St → Prop} {st st' : St} (h : st = st') (k : WOps P ops K l st') : WOps P ops K l st := by subst h; exact k
theorem WOps.endK {ops : List Oper} {K : St → Prop} {st : St} (h : K st) : WOps P ops K [] st := h

/-! ### calls -/
/-- what is left of a call: its contract, and what stands behind it -/
def CallT (P : Program) (g : FuncId) (ys : List AV) (os : List (Nat × Obj)) (b : Bool) (ps : List (Nat × Nat)) (d : Nat) (N : AV → List (Nat × Obj) → Prop) : Prop :=
  ∃ R : AV → List (Nat × Obj) → Prop, ACalls P g ys os R ∧ ∀ r o, R r o → backOk ps d o = true ∧ freeNews b r o = true ∧ N r o
theorem CallT.mk {g : FuncId} {ys : List AV} {os : List (Nat × Obj)} {b : Bool} {ps : List (Nat × Nat)} {d : Nat} {N : AV → List (Nat × Obj) → Prop} {r0 : AV} {n0 : List (Nat × Obj)} (hc : ACalls P g ys os (fun r o => r = r0 ∧ o = n0)) (hb : (backOk ps d n0 && freeNews b r0 n0) = true)
    (h : N r0 n0) : CallT P g ys os b ps d N := by
  rw [Bool.and_eq_true] at hb
  exact ⟨_, hc, fun r o ⟨h1, h2⟩ => by subst h1; subst h2; exact ⟨hb.1, hb.2, h⟩⟩
theorem CallT.mkE {α : Type} {g : FuncId} {ys : List AV} {os : List (Nat × Obj)} {b : Bool} {ps : List (Nat × Nat)} {d : Nat} {N : AV → List (Nat × Obj) → Prop} {r0 : α → AV} {n0 : α → List (Nat × Obj)} {Z : α → Prop} (hc : ACalls P g ys os (fun r o => ∃ z, r = r0 z ∧ o = n0 z ∧ Z z))
    (h : ∀ z, Z z → (backOk ps d (n0 z) && freeNews b (r0 z) (n0 z)) = true ∧ N (r0 z) (n0 z)) : CallT P g ys os b ps d N := by
  refine ⟨_, hc, fun r o ⟨z, h1, h2, h3⟩ => ?_⟩
  subst h1; subst h2
  obtain ⟨k1, k2⟩ := h z h3
  rw [Bool.and_eq_true] at k1
  exact ⟨k1.1, k1.2, k2⟩

theorem WOps.call {ops rest : List Oper} {K : St → Prop} {o : Oper} {st : St} {f : Operand} {args : Array Operand} {tys : Array TypeId} (ho : o.op = .call { callee := .value f, args, argTypes := tys }) (hw : wantedA ops o st = some true) (hd0 : dstOk o st = true)
    {g : FuncId} {caps : List AV} (hf : st.callee f = some (g, caps)) (ps : List (Nat × Nat)) (hps : psOk ps = true) {d : Nat} (hd : o.dst.getD 1249 = d) (hd2 : d < 1250) {ys : List AV} {b : Bool} (hsn : st.snaps ps (args.toList.map st.ev ++ caps) = some (ys, b))
    {os : List (Nat × Obj)} (hos : st.objsFor ps ps = some os) (h : CallT P g ys os b ps d (fun r n => WOps P ops K rest ((st.adopt ps d n).put o.dst (r.ren (outName ps d))))) : WOps P ops K (o :: rest) st := by
  obtain ⟨R, hc, hN⟩ := h
  exact ⟨hd0, true, hw, by simp only [if_true]; exact WOp.call ho hf ps hps hsn hos hc hd hd2 fun r n hR => hN r n hR⟩

theorem adopt_nil (st : St) (d : Nat) : st.adopt [] d [] = st := rfl
theorem ren_outNil (d : Nat) {x : AV} (h : x.isData = true) : x.ren (outName [] d) = x := AV.ren_data _ x h

/-- a call of a function that turns nothing, which may be left out -/
theorem WOps.callG {ops rest : List Oper} {K : St → Prop} {o : Oper} {st : St} {t : Bool} {f : Operand} {args : Array Operand} {tys : Array TypeId} (ho : o.op = .call { callee := .value f, args, argTypes := tys }) (hw : wantedA ops o st = some t) (hd0 : dstOk o st = true)
    {d : Nat} (hd : o.dst.getD 1249 = d) (hd2 : d < 1250) {r0 : AV} (hc : t = true → ∃ g caps ys b, st.callee f = some (g, caps) ∧ st.snaps [] (args.toList.map st.ev ++ caps) = some (ys, b) ∧ ACalls P g ys [] (fun r o => r = r0 ∧ o = []) ∧ freeNews b r0 [] = true ∧ r0.isData = true)
    (h : WOps P ops K rest (st.put o.dst (if t = true then r0 else .dead))) : WOps P ops K (o :: rest) st := by
  refine ⟨hd0, t, hw, ?_⟩
  cases t with
  | true =>
    obtain ⟨g, caps, ys, b, h1, h2, h3, h4, h5⟩ := hc rfl
    simp only [if_true] at h ⊢
    refine WOp.call ho h1 [] rfl h2 (os := []) rfl h3 hd hd2 fun r n ⟨e1, e2⟩ => ?_
    subst e1; subst e2
    refine ⟨by simp [backOk], h4, ?_⟩
    rw [adopt_nil, ren_outNil d h5]; exact h
  | false =>
    simp only [Bool.false_eq_true, if_false] at h ⊢
    exact ⟨_, .inl rfl, h⟩

/-! ### drawn regions, so many operations -/
noncomputable def drawN (Γ : TypeId → Option TI) (ops : List Oper) (deps : List (List Nat)) (eff : List (Nat × List Nat)) (s0 : St) : Nat → List Oper → Nat → List REnt → Option (List Oper × Nat × List REnt)
  | 0, rest, k, ents => some (rest, k, ents)
  | _ + 1, [], _, _ => none
  | n + 1, o :: rest, k, ents => match wantedA ops o (viewSt ops deps eff s0 k ents) with
    | some true => match evalQ Γ o (viewSt ops deps eff s0 k ents) with
      | some (r, new) => match newIn o (viewSt ops deps eff s0 k ents) new with
        | true => drawN Γ ops deps eff s0 n rest (k + 1) (ents ++ [⟨o.dst, r, new⟩])
        | false => none
      | none => none
    | some false => drawN Γ ops deps eff s0 n rest (k + 1) (ents ++ [⟨o.dst, .dead, []⟩])
    | none => none
theorem WDraw.nN (hΓ : TOk P Γ) {ops : List Oper} {deps : List (List Nat)} {eff : List (Nat × List Nat)} {s0 : St} {K : St → Prop} {m : Nat} : ∀ {n : Nat} {rest rest' : List Oper} {k k' : Nat} {ents ents' : List REnt},
    drawN Γ ops deps eff s0 n rest k ents = some (rest', k', ents') → WDraw P ops deps eff s0 K m rest' k' ents' → WDraw P ops deps eff s0 K (m + n) rest k ents
  | 0, rest, rest', k, k', ents, ents', hr, h => by cases hr; exact h
  | n + 1, [], rest', k, k', ents, ents', hr, h => by cases hr
  | n + 1, o :: rest, rest', k, k', ents, ents', hr, h => by
    simp only [drawN] at hr
    show WDraw P ops deps eff s0 K ((m + n) + 1) (o :: rest) k ents
    split at hr
    · rename_i hw
      split at hr
      · rename_i r new hq
        split at hr
        · rename_i hn
          exact ⟨true, hw, by simp only [if_true]; exact ⟨r, new, evalQ_ok hΓ hq hn, fun x hx => .inl (newIn_all hn x hx).1, WDraw.nN hΓ hr h⟩⟩
        · cases hr
      · cases hr
    · rename_i hw
      exact ⟨false, hw, by simp only [Bool.false_eq_true, if_false]; exact ⟨_, .inl rfl, WDraw.nN hΓ hr h⟩⟩
    · cases hr
theorem WDraw.n (hΓ : TOk P Γ) (n m : Nat) {ops : List Oper} {deps : List (List Nat)} {eff : List (Nat × List Nat)} {s0 : St} {K : St → Prop} {N : Nat} {rest rest' : List Oper} {k k' : Nat} {ents ents' : List REnt} {q : Option (List Oper × Nat × List REnt)} (hN : N = m + n)
    (hr : drawN Γ ops deps eff s0 n rest k ents = q) (hq : q = some (rest', k', ents')) (h : WDraw P ops deps eff s0 K m rest' k' ents') : WDraw P ops deps eff s0 K N rest k ents := by
  subst hN; exact WDraw.nN hΓ (hr.trans hq) h
theorem WDraw.opG (hΓ : TOk P Γ) {ops rest : List Oper} {deps : List (List Nat)} {eff : List (Nat × List Nat)} {s0 v : St} {K : St → Prop} {n k : Nat} {ents ents' : List REnt} {o : Oper} {t : Bool} {r : AV} (hv : viewSt ops deps eff s0 k ents = v) (hw : wantedA ops o v = some t) (hp : t = true → evalP Γ o v = some r)
    (he : ents ++ [⟨o.dst, if t = true then r else .dead, []⟩] = ents') (h : WDraw P ops deps eff s0 K n rest (k + 1) ents') : WDraw P ops deps eff s0 K (n + 1) (o :: rest) k ents := by
  subst he; subst hv
  refine ⟨t, hw, ?_⟩
  cases t with
  | true =>
    simp only [if_true] at h ⊢
    exact ⟨r, [], QStep.pure hΓ (hp rfl), fun x hx => by simp at hx, h⟩
  | false =>
    simp only [Bool.false_eq_true, if_false] at h ⊢
    exact ⟨_, .inl rfl, h⟩
theorem WDraw.skip {ops rest : List Oper} {deps : List (List Nat)} {eff : List (Nat × List Nat)} {s0 v : St} {K : St → Prop} {n k : Nat} {ents ents' : List REnt} {o : Oper} (hv : viewSt ops deps eff s0 k ents = v) (hw : wantedA ops o v = some false) (he : ents ++ [⟨o.dst, .val undef, []⟩] = ents')
    (h : WDraw P ops deps eff s0 K n rest (k + 1) ents') : WDraw P ops deps eff s0 K (n + 1) (o :: rest) k ents := by
  subst he; subst hv; exact ⟨false, hw, by simp only [Bool.false_eq_true, if_false]; exact ⟨_, .inr rfl, h⟩⟩
/-- what is left of a call in a drawn region -/
def CallD (P : Program) (g : FuncId) (ys : List AV) (os : List (Nat × Obj)) (b : Bool) (ps : List (Nat × Nat)) (d : Nat) (N : AV → List (Nat × Obj) → Prop) : Prop :=
  ∃ r0 n0, ACalls P g ys os (fun r o => r = r0 ∧ o = n0) ∧ backOk ps d n0 = true ∧ freeNews b r0 n0 = true ∧ N r0 n0
theorem CallD.mk {g : FuncId} {ys : List AV} {os : List (Nat × Obj)} {b : Bool} {ps : List (Nat × Nat)} {d : Nat} {N : AV → List (Nat × Obj) → Prop} {r0 : AV} {n0 : List (Nat × Obj)} (hc : ACalls P g ys os (fun r o => r = r0 ∧ o = n0)) (hb : (backOk ps d n0 && freeNews b r0 n0) = true)
    (h : N r0 n0) : CallD P g ys os b ps d N := by
  rw [Bool.and_eq_true] at hb
  exact ⟨r0, n0, hc, hb.1, hb.2, h⟩
theorem WDraw.callD {ops : List Oper} {deps : List (List Nat)} {eff : List (Nat × List Nat)} {s0 : St} {K : St → Prop} {n : Nat} {rest : List Oper} {k : Nat} {ents : List REnt} {o : Oper} {v : St} (hv : viewSt ops deps eff s0 k ents = v) (hw : wantedA ops o v = some true)
    {f : Operand} {args : Array Operand} {tys : Array TypeId} (ho : o.op = .call { callee := .value f, args, argTypes := tys }) {g : FuncId} {caps : List AV} (hf : v.callee f = some (g, caps)) (ps : List (Nat × Nat)) (hps : psOk ps = true) {ys : List AV} {b : Bool}
    (hsn : v.snaps ps (args.toList.map v.ev ++ caps) = some (ys, b)) {os : List (Nat × Obj)} (hos : v.objsFor ps ps = some os) {d : Nat} (hd : o.dst = some d) (hd1 : decide (d < 1250) = true) (hk : ps.map (·.2) = [] ∨ (k, ps.map (·.2)) ∈ eff)
    (h : CallD P g ys os b ps d fun r0 n0 => ((ps.all fun x => (look x.1 n0).isSome) && ((newIds d n0).all fun id => (look id v.objs).isNone) && outIn (ps.map (·.2)) o v (n0.map fun x => (outName ps d x.1, x.2.ren (outName ps d)))) = true ∧
      ∃ ents', ents ++ [⟨o.dst, r0.ren (outName ps d), n0.map fun x => (outName ps d x.1, x.2.ren (outName ps d))⟩] = ents' ∧ WDraw P ops deps eff s0 K n rest (k + 1) ents') : WDraw P ops deps eff s0 K (n + 1) (o :: rest) k ents := by
  subst hv
  obtain ⟨r0, n0, hc, h1, h2, h3, ents', rfl, h4⟩ := h
  simp only [Bool.and_eq_true] at h3
  obtain ⟨⟨h5, h6⟩, h7⟩ := h3
  exact WDraw.call hw ho rfl hf ps hps hsn hos hc hd (by simp only [hd1, h1, h2, h5, h6, Bool.and_self]) rfl rfl h7 hk h4
theorem WDraw.callG {ops : List Oper} {deps : List (List Nat)} {eff : List (Nat × List Nat)} {s0 : St} {K : St → Prop} {n : Nat} {rest : List Oper} {k : Nat} {ents ents' : List REnt} {o : Oper} {v : St} {t : Bool} (hv : viewSt ops deps eff s0 k ents = v) (hw : wantedA ops o v = some t)
    {f : Operand} {args : Array Operand} {tys : Array TypeId} (ho : o.op = .call { callee := .value f, args, argTypes := tys }) {d : Nat} (hd : o.dst = some d) (hd1 : decide (d < 1250) = true) {r0 : AV}
    (hc : t = true → ∃ g caps ys b, v.callee f = some (g, caps) ∧ v.snaps [] (args.toList.map v.ev ++ caps) = some (ys, b) ∧ ACalls P g ys [] (fun r o => r = r0 ∧ o = []) ∧ freeNews b r0 [] = true ∧ r0.isData = true)
    (he : ents ++ [⟨o.dst, if t = true then r0 else .dead, []⟩] = ents') (h : WDraw P ops deps eff s0 K n rest (k + 1) ents') : WDraw P ops deps eff s0 K (n + 1) (o :: rest) k ents := by
  subst hv; subst he
  cases t with
  | false => exact ⟨false, hw, by simp only [Bool.false_eq_true, if_false] at h ⊢; exact ⟨_, .inl rfl, h⟩⟩
  | true =>
    obtain ⟨g, caps, ys, b, h1, h2, h3, h4, h5⟩ := hc rfl
    simp only [if_true] at h
    exact WDraw.call hw ho rfl h1 [] rfl h2 (os := []) rfl h3 hd (by rw [hd1, h4]; rfl) (ren_outNil d h5) rfl rfl (.inl rfl) h

theorem W.drawT [M : Mode] (hm : P.follows .mixedOrders = true) {id : Nat} {ops : Array Oper} {y : Code} {st : St} {Q : Exit → St → Prop} (n : Nat) (eff : List (Nat × List Nat)) {deps : List (List Nat)} (hdeps : allDeps ops.toList [] = deps)
    (hok : (drawOk ops.toList deps n st.nt && freshOk ops.toList st.objs && decide (n ≤ ops.size) && effOk ops.toList deps eff st.objs) = true)
    (h : WDraw P ops.toList deps eff st (fun s => W P y s Q) n ops.toList 0 []) : W P (.seq (.region id ops true) y) st Q := by
  subst hdeps
  exact W.seq (W.drawS hm n eff rfl hok h)
theorem W.drawE [M : Mode] (hm : P.follows .mixedOrders = true) {id : Nat} {ops : Array Oper} {st : St} {Q : Exit → St → Prop} (n : Nat) (eff : List (Nat × List Nat)) {deps : List (List Nat)} (hdeps : allDeps ops.toList [] = deps)
    (hok : (drawOk ops.toList deps n st.nt && freshOk ops.toList st.objs && decide (n ≤ ops.size) && effOk ops.toList deps eff st.objs) = true)
    (h : WDraw P ops.toList deps eff st (Q .normal) n ops.toList 0 []) : W P (.region id ops true) st Q := by
  subst hdeps
  exact W.drawS hm n eff rfl hok h

/-! ### operations that may be left out: what says so is reckoned first -/
def WG (P : Program) (ops : List Oper) (K : St → Prop) (o : Oper) (rest : List Oper) (st : St) (x : Bool) : Prop := wantedA ops o st = some x → WOps P ops K (o :: rest) st
def WGf (P : Program) (ops : List Oper) (K : St → Prop) (o : Oper) (rest : List Oper) (st : St) : Prop := WG P ops K o rest st false
def WGt (P : Program) (ops : List Oper) (K : St → Prop) (o : Oper) (rest : List Oper) (st : St) : Prop := WG P ops K o rest st true
def WGx (P : Program) (ops : List Oper) (K : St → Prop) (o : Oper) (rest : List Oper) (st : St) (x : Bool) : Prop := WG P ops K o rest st x
section
variable {ops rest : List Oper} {K : St → Prop} {o : Oper} {st : St} {x : Bool}
theorem WOps.gd {d : Nat} {b : Bool} {u : Value} (h1 : guardD ops o = some (d, b)) (h2 : st.at d = .val u) (hx : isB b u = x) (h : WG P ops K o rest st x) : WOps P ops K (o :: rest) st := h (wantedOf h1 h2 hx)
theorem WG.isF (h : WGf P ops K o rest st) : WG P ops K o rest st false := h
theorem WG.isT (h : WGt P ops K o rest st) : WG P ops K o rest st true := h
theorem WG.isX (h : WGx P ops K o rest st x) : WG P ops K o rest st x := h
theorem WGf.mk {s2 : St} (hd : dstOk o st = true) (hs : st.put o.dst (.val undef) = s2) (h : WOps P ops K rest s2) : WGf P ops K o rest st := fun hw => by subst hs; exact WOps.skip hw hd h
theorem WGt.mk (hΓ : TOk P Γ) {s1 s2 : St} {r : AV} (hd : dstOk o st = true) (hev : evalAll Γ o st = some (r, s1)) (hs : s1.put o.dst r = s2) (h : WOps P ops K rest s2) : WGt P ops K o rest st := fun hw => WOps.opT hΓ hw hd hev hs h
theorem WGx.mk (hΓ : TOk P Γ) {s2 : St} {r : AV} (hn : isWrite o = false) (hd : dstOk o st = true) (hp : x = true → evalP Γ o st = some r) (hs : st.put o.dst (if x = true then r else .dead) = s2) (h : WOps P ops K rest s2) : WGx P ops K o rest st x := fun hw => by subst hs; exact WOps.opG hΓ hw hn hd hp h
theorem WGt.call {f : Operand} {args : Array Operand} {tys : Array TypeId} (ho : o.op = .call { callee := .value f, args, argTypes := tys }) (hd0 : dstOk o st = true)
    {g : FuncId} {caps : List AV} (hf : st.callee f = some (g, caps)) (ps : List (Nat × Nat)) (hps : psOk ps = true) {d : Nat} (hd : o.dst.getD 1249 = d) (hd2 : d < 1250) {ys : List AV} {b : Bool} (hsn : st.snaps ps (args.toList.map st.ev ++ caps) = some (ys, b))
    {os : List (Nat × Obj)} (hos : st.objsFor ps ps = some os) (h : CallT P g ys os b ps d (fun r n => WOps P ops K rest ((st.adopt ps d n).put o.dst (r.ren (outName ps d))))) : WGt P ops K o rest st := fun hw => WOps.call ho hw hd0 hf ps hps hd hd2 hsn hos h
theorem WGx.call {f : Operand} {args : Array Operand} {tys : Array TypeId} (ho : o.op = .call { callee := .value f, args, argTypes := tys }) (hd0 : dstOk o st = true)
    {d : Nat} (hd : o.dst.getD 1249 = d) (hd2 : d < 1250) {r0 : AV} (hc : x = true → ∃ g caps ys b, st.callee f = some (g, caps) ∧ st.snaps [] (args.toList.map st.ev ++ caps) = some (ys, b) ∧ ACalls P g ys [] (fun r o => r = r0 ∧ o = []) ∧ freeNews b r0 [] = true ∧ r0.isData = true)
    {s2 : St} (hs : st.put o.dst (if x = true then r0 else .dead) = s2) (h : WOps P ops K rest s2) : WGx P ops K o rest st x := fun hw => by subst hs; exact WOps.callG ho hw hd0 hd hd2 hc h
end
def DG (P : Program) (ops : List Oper) (deps : List (List Nat)) (eff : List (Nat × List Nat)) (s0 : St) (K : St → Prop) (n : Nat) (o : Oper) (rest : List Oper) (k : Nat) (ents : List REnt) (v : St) (x : Bool) : Prop :=
  viewSt ops deps eff s0 k ents = v → wantedA ops o v = some x → WDraw P ops deps eff s0 K (n + 1) (o :: rest) k ents
def DGf (P : Program) (ops : List Oper) (deps : List (List Nat)) (eff : List (Nat × List Nat)) (s0 : St) (K : St → Prop) (n : Nat) (o : Oper) (rest : List Oper) (k : Nat) (ents : List REnt) (v : St) : Prop := DG P ops deps eff s0 K n o rest k ents v false
def DGt (P : Program) (ops : List Oper) (deps : List (List Nat)) (eff : List (Nat × List Nat)) (s0 : St) (K : St → Prop) (n : Nat) (o : Oper) (rest : List Oper) (k : Nat) (ents : List REnt) (v : St) : Prop := DG P ops deps eff s0 K n o rest k ents v true
def DGx (P : Program) (ops : List Oper) (deps : List (List Nat)) (eff : List (Nat × List Nat)) (s0 : St) (K : St → Prop) (n : Nat) (o : Oper) (rest : List Oper) (k : Nat) (ents : List REnt) (v : St) (x : Bool) : Prop := DG P ops deps eff s0 K n o rest k ents v x
section
variable {ops rest : List Oper} {deps : List (List Nat)} {eff : List (Nat × List Nat)} {s0 v : St} {K : St → Prop} {n k : Nat} {ents ents' : List REnt} {o : Oper} {x : Bool}
theorem WDraw.gd {d : Nat} {b : Bool} {u : Value} (hv : viewSt ops deps eff s0 k ents = v) (h1 : guardD ops o = some (d, b)) (h2 : v.at d = .val u) (hx : isB b u = x) (h : DG P ops deps eff s0 K n o rest k ents v x) : WDraw P ops deps eff s0 K (n + 1) (o :: rest) k ents := h hv (wantedOf h1 h2 hx)
theorem DG.isF (h : DGf P ops deps eff s0 K n o rest k ents v) : DG P ops deps eff s0 K n o rest k ents v false := h
theorem DG.isT (h : DGt P ops deps eff s0 K n o rest k ents v) : DG P ops deps eff s0 K n o rest k ents v true := h
theorem DG.isX (h : DGx P ops deps eff s0 K n o rest k ents v x) : DG P ops deps eff s0 K n o rest k ents v x := h
theorem DGf.mk (he : ents ++ [⟨o.dst, .val undef, []⟩] = ents') (h : WDraw P ops deps eff s0 K n rest (k + 1) ents') : DGf P ops deps eff s0 K n o rest k ents v := fun hv hw => WDraw.skip hv hw he h
theorem DGt.mk (hΓ : TOk P Γ) {r : AV} {new : List (Nat × Obj)} (he : evalQ Γ o v = some (r, new)) (hn : newIn o v new = true) (hs : ents ++ [⟨o.dst, r, new⟩] = ents') (h : WDraw P ops deps eff s0 K n rest (k + 1) ents') : DGt P ops deps eff s0 K n o rest k ents v := fun hv hw => WDraw.opT hΓ hv hw he hn hs h
theorem DGx.mk (hΓ : TOk P Γ) {r : AV} (hp : x = true → evalP Γ o v = some r) (he : ents ++ [⟨o.dst, if x = true then r else .dead, []⟩] = ents') (h : WDraw P ops deps eff s0 K n rest (k + 1) ents') : DGx P ops deps eff s0 K n o rest k ents v x := fun hv hw => WDraw.opG hΓ hv hw hp he h
theorem DGt.call {f : Operand} {args : Array Operand} {tys : Array TypeId} (ho : o.op = .call { callee := .value f, args, argTypes := tys }) {g : FuncId} {caps : List AV} (hf : v.callee f = some (g, caps)) (ps : List (Nat × Nat)) (hps : psOk ps = true) {ys : List AV} {b : Bool}
    (hsn : v.snaps ps (args.toList.map v.ev ++ caps) = some (ys, b)) {os : List (Nat × Obj)} (hos : v.objsFor ps ps = some os) {d : Nat} (hd : o.dst = some d) (hd1 : decide (d < 1250) = true) (hk : ps.map (·.2) = [] ∨ (k, ps.map (·.2)) ∈ eff)
    (h : CallD P g ys os b ps d fun r0 n0 => ((ps.all fun x => (look x.1 n0).isSome) && ((newIds d n0).all fun id => (look id v.objs).isNone) && outIn (ps.map (·.2)) o v (n0.map fun x => (outName ps d x.1, x.2.ren (outName ps d)))) = true ∧
      ∃ ents', ents ++ [⟨o.dst, r0.ren (outName ps d), n0.map fun x => (outName ps d x.1, x.2.ren (outName ps d))⟩] = ents' ∧ WDraw P ops deps eff s0 K n rest (k + 1) ents') : DGt P ops deps eff s0 K n o rest k ents v := fun hv hw => WDraw.callD hv hw ho hf ps hps hsn hos hd hd1 hk h
theorem DGx.call {f : Operand} {args : Array Operand} {tys : Array TypeId} (ho : o.op = .call { callee := .value f, args, argTypes := tys }) {d : Nat} (hd : o.dst = some d) (hd1 : decide (d < 1250) = true) {r0 : AV}
    (hc : x = true → ∃ g caps ys b, v.callee f = some (g, caps) ∧ v.snaps [] (args.toList.map v.ev ++ caps) = some (ys, b) ∧ ACalls P g ys [] (fun r o => r = r0 ∧ o = []) ∧ freeNews b r0 [] = true ∧ r0.isData = true)
    (he : ents ++ [⟨o.dst, if x = true then r0 else .dead, []⟩] = ents') (h : WDraw P ops deps eff s0 K n rest (k + 1) ents') : DGx P ops deps eff s0 K n o rest k ents v x := fun hv hw => WDraw.callG hv hw ho hd hd1 hc he h
end

/-- less is said ahead of an operation -/
theorem WOps.le {ops rest : List Oper} {K : St → Prop} {o : Oper} {st st' : St} (hl : Le st st') (hg : o.guard = none) (hd : dstOk o st = true) (h : WOps P ops K (o :: rest) st') : WOps P ops K (o :: rest) st := by
  obtain ⟨_, t, hw, h⟩ := h
  have hw' : ∀ s : St, wantedA ops o s = some true := fun s => by unfold wantedA; rw [hg]
  rw [hw' st'] at hw
  cases hw
  simp only [if_true] at h
  refine ⟨hd, true, hw' st, ?_⟩
  simp only [if_true]
  intro rd a w e hc next Q hn
  obtain ⟨e2, c2, f2⟩ := hl a w e hc
  exact h rd a w e2 c2 next Q fun r s v w' e' hK h1 h2 h3 => hn r s v w' e' hK h1 (f2.trans h2) h3

/-! ### loops -/
/-- objects but those at these result slots, and of these names -/
def dropO (ds ids : List Nat) : List (Nat × Obj) → List (Nat × Obj)
  | [] => []
  | x :: r => if (decide (x.1 < 10000) && ds.contains (x.1 / 8)) || ids.contains x.1 then dropO ds ids r else x :: dropO ds ids r
def holdsO (os : List (Nat × Obj)) : List (Nat × Obj) → Prop
  | [] => True
  | (t, x) :: r => look t os = some x ∧ holdsO os r
def keysIn (os objs : List (Nat × Obj)) : Bool := os.all fun x => (look x.1 objs).isSome
def spare : List (Nat × Obj) → List (Nat × Obj) → List Nat
  | [], _ => []
  | x :: r, objs => match look x.1 objs with
    | some _ => spare r objs
    | none => x.1 :: spare r objs

theorem holdsO_look {os : List (Nat × Obj)} : ∀ {l : List (Nat × Obj)}, holdsO os l → ∀ t x, look t l = some x → look t os = some x
  | (k, y) :: r, h, t, x, hx => by
    simp only [look] at hx
    split at hx
    · rename_i hk; subst hk; cases hx; exact h.1
    · exact holdsO_look h.2 t x hx

theorem Le.fit {s s' : St} {nt : Nat} {tm : List (Nat × AV)} {objs : List (Nat × Obj)} (hs : (s.keep (tm.map (·.1))).killIds (spare s.objs objs) = s') (hn : s'.nt = nt) (hu : (spare s.objs objs).all unp = true) (hk : keysIn s'.objs objs = true) (hT : holdsT s'.tmps tm) (hO : holdsO s'.objs objs) : Le s ⟨nt, tm, objs⟩ := by
  subst hs; subst hn
  refine (Le.keep (tm.map (·.1))).trans ((Le.kill (l := spare s.objs objs) (by simpa using hu)).trans ?_)
  refine Le.objs rfl (fun id => ?_) hT
  cases hl : look id objs with
  | some o => exact holdsO_look hO id o hl
  | none =>
    cases hl' : look id ((s.keep (tm.map (·.1))).killIds (spare s.objs objs)).objs with
    | none => rfl
    | some o =>
      have h1 := List.all_eq_true.1 hk _ (look_mem hl')
      simp [hl] at h1

theorem W.loopU [M : Mode] {α : Type} (L ds ids : List Nat) {c : Code} {st : St} {Q : Exit → St → Prop} (vt : α → List (Nat × AV)) (vo : α → List (Nat × Obj)) (I : α → Prop) (μ : α → Nat) (x0 : α) {nt : Nat} {tm0 : List (Nat × AV)} {ob0 : List (Nat × Obj)} (hn : st.nt = nt) (h1 : selT st.tmps L = tm0) (h2 : dropO ds ids st.objs = ob0)
    (h0 : Le st ⟨nt, vt x0 ++ tm0, vo x0 ++ ob0⟩) (hI : I x0) (round : ∀ x, I x → W P c ⟨nt, vt x ++ tm0, vo x ++ ob0⟩ (thenQ (fun s' => ∃ y, Le s' ⟨nt, vt y ++ tm0, vo y ++ ob0⟩ ∧ I y ∧ μ y < μ x) Q)) : W P (.loop c) st Q :=
  W.loopS (fun x => ⟨nt, vt x ++ tm0, vo x ++ ob0⟩) I μ x0 h0 hI round

/-- nil in a variable's cell, seen as an empty slice of its own -/
def St.ownNilO (st : St) (id k j nid : Nat) (ty : TypeId) (sz : Nat) : Option St :=
  match look id (st.renew nid (.row true ty sz [])).objs with
  | some (.row false t s els) => match els[k]? with
    | some y => match y.cells[j]? with
      | some (.val (.slice none 0 0)) => match y.setCells j [.own nid 0 0] with
        | some z => if unp nid = true ∧ nid ≠ id then some { st.renew nid (.row true ty sz []) with objs := upd id (.row false t s (els.set k z)) (st.renew nid (.row true ty sz [])).objs } else none
        | none => none
      | _ => none
    | none => none
  | _ => none
theorem Le.ownNilO {st s2 : St} {id k j nid : Nat} {ty : TypeId} {sz : Nat} (h : st.ownNilO id k j nid ty sz = some s2) : Le st s2 := by
  intro a w e hc
  unfold St.ownNilO at h
  split at h
  · rename_i t s els ho
    split at h
    · rename_i y hy
      split at h
      · rename_i hcell
        split at h
        · rename_i z hz
          split at h
          · rename_i hu
            cases h
            obtain ⟨c1, f1⟩ := hc.phantom nid hu.1 ty sz
            have hdom := c1.sim.dom id
            rw [ho] at hdom
            obtain ⟨m, hm⟩ := Option.isSome_iff_exists.1 (hdom.trans rfl)
            have hk := c1.sim.obj id _ m ho hm
            obtain ⟨hle, hzc⟩ := AV.setCells_cells hz
            refine ⟨_, c1.write id _ m hm (Fr.refl _ _) (fun _ _ _ _ _ _ => rfl) ⟨hk.hsz, by simpa using hk.len, hk.cap, fun x hx => ?_, hk.only, ?_⟩, f1⟩
            · rcases List.mem_or_eq_of_mem_set hx with hx | rfl
              · exact hk.cells x hx
              · rw [hzc, ← hk.cells y (List.mem_of_getElem? hy)]
                simp only [setSeg, List.length_append, List.length_take, List.length_drop, List.length_singleton] at hle ⊢
                omega
            · have hkb := hk.blk
              cases hmb : m.blk with
              | none => simpa [hmb] using hkb
              | some b =>
                simp only [hmb] at hkb ⊢
                obtain ⟨cur, h1, h2, h3⟩ := hkb
                refine ⟨cur, h1, h2, fun i x hx jj q hq => ?_⟩
                rw [List.getElem?_set] at hx
                by_cases hki : k = i
                · subst hki
                  rw [if_pos rfl] at hx
                  split at hx
                  · cases hx
                    rw [hzc] at hq
                    by_cases hjj : jj = j
                    · subst hjj
                      have hjlt : jj < y.cells.length := (List.getElem?_eq_some_iff.1 hcell).1
                      simp only [setSeg, List.getElem?_append, List.length_take, List.length_singleton] at hq
                      rw [if_neg (by omega)] at hq
                      have : jj - min jj y.cells.length = 0 := by omega
                      rw [this] at hq
                      simp only [List.length_singleton, Nat.lt_one_iff, if_true, List.getElem?_cons_zero, Option.some.injEq] at hq
                      subst hq
                      obtain ⟨v, g1, g2, g3⟩ := h3 k y hy jj _ hcell
                      have hv := g3.rd.val_inv
                      subst hv
                      exact ⟨_, g1, g2, by simp only [CellRd, Bool.false_eq_true, if_false]; exact .own0 nid (mt none 0 sz) (by simp [Env.set]) rfl none⟩
                    · refine h3 k y hy jj q ?_
                      simp only [setSeg, List.getElem?_append, List.length_take, List.length_singleton] at hq
                      by_cases hlt : jj < j
                      · have hjlt : j < y.cells.length := (List.getElem?_eq_some_iff.1 hcell).1
                        rw [if_pos (by omega), List.getElem?_take, if_pos hlt] at hq
                        exact hq
                      · have hjlt : j < y.cells.length := (List.getElem?_eq_some_iff.1 hcell).1
                        rw [if_neg (by omega), if_neg (by omega), List.getElem?_drop] at hq
                        rw [← hq]; congr 1; omega
                  · cases hx
                · rw [if_neg hki] at hx
                  exact h3 i x hx jj q hq
          · cases h
        · cases h
      · cases h
    · cases h
  · cases h
theorem W.ownNilO [M : Mode] {c : Code} {st s2 : St} {Q : Exit → St → Prop} (id k j nid : Nat) (ty : TypeId) (sz : Nat) (h : st.ownNilO id k j nid ty sz = some s2) (hw : W P c s2 Q) : W P c st Q := W.weaken (Le.ownNilO h) hw
theorem W.freeze [M : Mode] {c : Code} {st s2 : St} {Q : Exit → St → Prop} (id : Nat) (h : st.freeze id = some s2) (hw : W P c s2 Q) : W P c st Q := W.weaken (Le.freeze h) hw

/-! ### the end of a function -/
def St.freezes (st : St) : List Nat → Option St
  | [] => some st
  | id :: r => match st.freeze id with
    | some s => St.freezes s r
    | none => none
theorem Le.freezes : ∀ {l : List Nat} {st st' : St}, st.freezes l = some st' → Le st st'
  | [], st, st', h => by cases h; exact Le.refl _
  | id :: r, st, st', h => by
    simp only [St.freezes] at h
    split at h
    · rename_i s hs; exact (Le.freeze hs).trans (Le.freezes h)
    · cases h
mutual
def AV.deNil : AV → AV
  | .val (.slice none 0 0) => .imm []
  | .agg l => .agg (AV.deNilL l)
  | .tup l => .tup (AV.deNilL l)
  | x => x
def AV.deNilL : List AV → List AV
  | [] => []
  | x :: xs => AV.deNil x :: AV.deNilL xs
end
theorem AV.deNilL_get : ∀ (l : List AV) (i : Nat), (AV.deNilL l)[i]? = (l[i]?).map AV.deNil
  | [], i => by simp [AV.deNilL]
  | x :: xs, i => by
    cases i with
    | zero => simp [AV.deNilL]
    | succ i => simp [AV.deNilL, AV.deNilL_get xs i]
theorem AV.deNilL_length : ∀ (l : List AV), (AV.deNilL l).length = l.length
  | [] => rfl
  | x :: xs => by simp [AV.deNilL, AV.deNilL_length xs]
mutual
theorem Rd.deNil {w : World} {e : Env} : ∀ (x : AV) {v : Value}, Rd w e x v → Rd w e x.deNil v
  | .agg l, v, h => by
    obtain ⟨vs, rfl, hs, hr⟩ := h.agg_inv
    simp only [AV.deNil]
    refine .agg _ vs (by rw [AV.deNilL_length]; exact hs) fun i x u hx hu => ?_
    rw [AV.deNilL_get] at hx
    obtain ⟨y, hy, rfl⟩ := Option.map_eq_some_iff.1 hx
    exact Rd.deNilL l i y u hy (hr i y u hy hu)
  | .tup l, v, h => by
    obtain ⟨vs, rfl, hs, hr⟩ := h.tup_inv
    simp only [AV.deNil]
    refine .tup _ vs (by rw [AV.deNilL_length]; exact hs) fun i x u hx hu => ?_
    rw [AV.deNilL_get] at hx
    obtain ⟨y, hy, rfl⟩ := Option.map_eq_some_iff.1 hx
    exact Rd.deNilL l i y u hy (hr i y u hy hu)
  | .val u, v, h => by
    by_cases hu : u = .slice none 0 0
    · subst hu
      obtain rfl := h.val_inv
      exact .data (.imm0 none 0)
    · have : (AV.val u).deNil = .val u := by
        unfold AV.deNil; split <;> simp_all
      rw [this]; exact h
  | .dead, _, h => h
  | .imm _, _, h => h
  | .own .., _, h => h
  | .ptr .., _, h => h
  | .iptr _, _, h => h
  | .map _, _, h => h
  | .yld _, _, h => h
  | .clo .., _, h => h
theorem Rd.deNilL {w : World} {e : Env} : ∀ (l : List AV) (i : Nat) (y : AV) (u : Value), l[i]? = some y → Rd w e y u → Rd w e y.deNil u
  | x :: xs, 0, y, u, h, hr => by simp at h; subst h; exact Rd.deNil x hr
  | x :: xs, i + 1, y, u, h, hr => Rd.deNilL xs i y u (by simpa using h) hr
  | [], i, y, u, h, _ => by simp at h
end
theorem Le.deNil {s : St} : Le s { s with tmps := mapV AV.deNil s.tmps } := by
  intro a w e hc
  refine ⟨e, ⟨hc.sim, hc.defers, hc.size, fun t x hx => ?_⟩, Fr.refl w e⟩
  simp only [look_mapV] at hx
  obtain ⟨y, hy, rfl⟩ := Option.map_eq_some_iff.1 hx
  obtain ⟨v, h1, h2⟩ := hc.tmp t y hy
  exact ⟨v, h1, Rd.deNil y h2⟩

def endB (dn : Bool) (ex : List (Nat × Nat)) (s : St) : Option (AV × List (Nat × Obj)) :=
  match expOk ex s.objs with
  | false => none
  | true => match look 0 s.tmps with
    | none => none
    | some y => some ((if dn then y.deNil else y).ren (expName ex), expObjs (expName ex) s.objs ex)
/-- what a function hands back: results, with own slices frozen (fz), nil seen as empty data (dn), objects handed over under the names of ex -/
def endA (Γ : TypeId → Option TI) (rs : List ResultVar) (dn : Bool) (fz : List Nat) (ex : List (Nat × Nat)) (st : St) : Option (AV × List (Nat × Obj)) :=
  match resultsA Γ st rs with
  | none => none
  | some x => match St.freezes ⟨1, [(0, x)], st.objs⟩ fz with
    | none => none
    | some s1 => match (spare s1.objs (ex.map fun y => (y.2, Obj.mp (.bool false) []))).all unp with
      | false => none
      | true => endB dn ex (s1.killIds (spare s1.objs (ex.map fun y => (y.2, Obj.mp (.bool false) []))))

theorem endA_done {rs : List ResultVar} {dn : Bool} {fz : List Nat} {ex : List (Nat × Nat)} {st : St} {r : AV} {o : List (Nat × Obj)} {R : AV → List (Nat × Obj) → Prop} (h : endA Γ rs dn fz ex st = some (r, o)) (hR : R r o) : Done Γ rs R st := by
  unfold endA at h
  split at h
  · cases h
  · rename_i x hx
    split at h
    · cases h
    · rename_i s1 h1
      split at h
      · cases h
      · rename_i hu
        have hle : Le ⟨1, [(0, x)], st.objs⟩ (s1.killIds (spare s1.objs (ex.map fun y => (y.2, Obj.mp (.bool false) [])))) := (Le.freezes h1).trans (Le.kill (by simpa using hu))
        generalize s1.killIds (spare s1.objs (ex.map fun y => (y.2, Obj.mp (.bool false) []))) = s2 at h hle
        unfold endB at h
        split at h
        · cases h
        · rename_i hk
          split at h
          · cases h
          · rename_i y hy
            simp only [Option.some.injEq, Prod.mk.injEq] at h
            obtain ⟨rfl, rfl⟩ := h
            cases dn with
            | false => exact ⟨x, _, y, ex, hx, hle, hy, hk, hR⟩
            | true => exact ⟨x, _, y.deNil, ex, hx, hle.trans Le.deNil, by simp only [look_mapV, hy, Option.map_some], hk, hR⟩
theorem EndQ.r {rs : List ResultVar} {R : AV → List (Nat × Obj) → Prop} {st : St} (dn : Bool) (fz : List Nat) (ex : List (Nat × Nat)) {r : AV} {o : List (Nat × Obj)} (h : endA Γ rs dn fz ex st = some (r, o)) (hR : R r o) : EndQ Γ rs R .ret st := endA_done h hR
theorem EndQ.n {rs : List ResultVar} {R : AV → List (Nat × Obj) → Prop} {st : St} (dn : Bool) (fz : List Nat) (ex : List (Nat × Nat)) {r : AV} {o : List (Nat × Obj)} (h : endA Γ rs dn fz ex st = some (r, o)) (hR : R r o) : EndQ Γ rs R .normal st := endA_done h hR

theorem ACalls.lenA {f : FuncId} {args : List AV} {objs : List (Nat × Obj)} {R : AV → List (Nat × Obj) → Prop} {l xs : List AV} (hm : AV.agg xs ∈ args) (hx : AV.imm l ∈ xs) (hf : Callable P f) (h : l.length ≤ maxLen → ACalls P f args objs R) : ACalls P f args objs R := by
  refine ⟨hf, fun w e vals h1 h2 h3 => ?_⟩
  obtain ⟨i, hi⟩ := List.mem_iff_getElem?.1 hm
  have hlt : i < vals.size := by rw [h2]; exact (List.getElem?_eq_some_iff.1 hi).1
  obtain ⟨vs, _, hs, hr⟩ := (h3 i _ vals[i] hi (Array.getElem?_eq_getElem hlt)).agg_inv
  obtain ⟨j, hj⟩ := List.mem_iff_getElem?.1 hx
  have hjlt : j < vs.size := by rw [hs]; exact (List.getElem?_eq_some_iff.1 hj).1
  exact (h (hr j _ vs[j] hj (Array.getElem?_eq_getElem hjlt)).imm_len).run w e vals h1 h2 h3

theorem Sim.setBs {w : World} {e : Env} {objs : List (Nat × Obj)} (h : Sim w e objs) (n : Nat) : Sim w { e with bs := n } objs :=
  ⟨h.dom, h.inj, fun id o m ho hm => by
    have := (h.obj id o m ho hm).ren (e' := { e with bs := n }) (fun i => i) (fun id m _ hg => ⟨m, hg, m.same_refl⟩) (.inl fun b hb _ => ⟨rfl, hb⟩) (Nat.le_refl _) ⟨rfl, rfl, rfl⟩ (fun _ _ => rfl)
    rwa [men_ren_id] at this, h.prok, h.new⟩
theorem Rd.setBs {w : World} {e : Env} {x : AV} {v : Value} (h : Rd w e x v) (n : Nat) : Rd w { e with bs := n } x v := Rd.evolve (e := e) (e' := { e with bs := n }) (fun b hb _ => ⟨rfl, hb⟩) h (fun _ _ => rfl)
/-- what a function hands back, seen with less said of it -/
theorem ACalls.post {f : FuncId} {args : List AV} {objs : List (Nat × Obj)} {R R' : AV → List (Nat × Obj) → Prop} (h : ACalls P f args objs R) (hR : ∀ r o, R r o → ∃ st2 y, Le ⟨1, [(0, r)], o⟩ st2 ∧ look 0 st2.tmps = some y ∧ R' y st2.objs) : ACalls P f args objs R' := by
  refine ⟨h.able, fun w e vals h1 h2 h3 => (h.run w e vals h1 h2 h3).mono ?_⟩
  rintro en w' ⟨v, res, objs', e', rfl, k1, k2, k3, k4⟩
  obtain ⟨st2, y, g1, g2, g3⟩ := hR res objs' k1
  have hc : Conc ⟨1, [(0, res)], objs'⟩ { tmps := #[v], defers := [] } w' { e' with bs := 0 } := by
    refine ⟨k2.setBs 0, Marks.nil (Nat.zero_le _), rfl, fun t z hz => ?_⟩
    simp only [look] at hz
    split at hz
    · rename_i ht; subst ht; cases hz; exact ⟨v, rfl, k4.setBs 0⟩
    · cases hz
  obtain ⟨e2, c2, f2⟩ := g1 _ _ _ hc
  obtain ⟨v', hv', h5⟩ := c2.tmp 0 y g2
  have hvv : v' = v := by simpa using hv'.symm
  subst hvv
  have f3 : Fr w' e' w' { e2 with bs := e'.bs } := ⟨f2.os, f2.tape, f2.output, f2.size, f2.blk, f2.own, by rw [show ({ e2 with bs := e'.bs } : Env).pr = e'.pr from f2.pr], ⟨f2.pins.pin, f2.pins.ext⟩⟩
  exact ⟨v', y, st2.objs, { e2 with bs := e'.bs }, rfl, g3, c2.sim.setBs _, k3.trans f3, h5.setBs _⟩
theorem ACalls.frzs (l : List Nat) {f : FuncId} {args : List AV} {objs : List (Nat × Obj)} {r : AV} {o : List (Nat × Obj)} {st2 : St} {y : AV} (h : ACalls P f args objs (fun r' o' => r' = r ∧ o' = o)) (hs : St.freezes ⟨1, [(0, r)], o⟩ l = some st2) (hy : look 0 st2.tmps = some y) :
    ACalls P f args objs (fun r o => r = y ∧ o = st2.objs) :=
  h.post fun r' o' ⟨h1, h2⟩ => by subst h1; subst h2; exact ⟨st2, y, Le.freezes hs, hy, rfl, rfl⟩

theorem ACalls.enter [M : Mode] (hΓ : TOk P Γ) {f : FuncId} {fn : Func} {c : Code} (hf : P.funcs[f]? = some fn) (hb : fn.body = some c) (hnm : (fn.name == "runtime.NumGoroutine") = false) {nt : Nat} (hnt : fn.ntmps = nt) {rs : List ResultVar} (hrs : fn.results.toList = rs) {args : List AV} {objs : List (Nat × Obj)} {R : AV → List (Nat × Obj) → Prop}
    (hn : args.length ≤ nt) {st : St} (hst : St.enter nt args objs = st) (h : W P c st (EndQ Γ rs R)) : ACalls P f args objs R := by
  subst hnt; subst hrs; subst hst
  exact ACalls.of_W hΓ hf hb hnm hn h
end
attribute [simp] Value.cells drawN St.ownNilO selT St.keep runK runL runN dropO holdsO keysIn spare St.freezes AV.deNil AV.deNilL endA endB
end Go.Sim
