/- One operation on abstract states, and the weakest precondition over abstract states. -/
import Derived.Test.YtggbbldoopfejaaSgm
import Derived.Deep.LoopGhost
namespace Go.Sim
open Go.RowKit
section
variable {P : Program} {Γ : TypeId → Option TI}

/-! ### single operations -/
def unA (op : UnOp) (x : AV) : Option AV :=
  match op, x with
  | .not, .val (.bool b) => some (.val (.bool !b))
  | .neg, .val (.int k n) => some (.val (.int k (k.wrap (0 - n))))
  | _, _ => none

def convA (Γ : TypeId → Option TI) (src dst : TypeId) (x : AV) : Option AV :=
  match Γ src, Γ dst, x with
  | some _, some ⟨_, _, _, .int k, _⟩, .val (.int _ n) => some (.val (.int k (k.wrap n)))
  | some _, some ⟨_, _, _, .string, _⟩, .val (.string s) => some (.val (.string s))
  | _, _, _ => none

def strIndexA (x ix : AV) : Option AV :=
  match x, ix with
  | .val (.string s), .val (.int _ n) => if 0 ≤ n then (s[n.toNat]?).map fun b => .val (.int .u8 b.toNat) else none
  | _, _ => none

/-- slicing where the elements' cells are known to be sz -/
def sliceS (sz : Nat) (objs : List (Nat × Obj)) (x : AV) (lo hi : Option AV) : Option AV :=
  match x with
  | .own id off len => match look id objs with
    | some (.row _ _ s _) => if s = sz then sliceA (.own id off len) lo hi else none
    | _ => none
  | .imm l => if l.all (fun y => y.cells.length == sz) = true then sliceA (.imm l) lo hi else none
  | .val (.slice none 0 0) => sliceA (.val (.slice none 0 0)) lo hi
  | _ => none

/-- the id of the object that operation's result slot owns -/
def slotId (o : Oper) : Option Nat := match o.dst with
  | some d => if d < 1250 then some (8 * d) else none
  | none => none

/-- operations that only reckon -/
noncomputable def evalP0 (Γ : TypeId → Option TI) (o : Oper) (st : St) : Option AV :=
  match o.op with
  | .move x => some (st.ev x)
  | .assign x => some (st.ev x)
  | .pick c a b => match st.ev c with
    | .val (.bool t) => some (if t then st.ev a else st.ev b)
    | _ => none
  | .nilCheck x => match st.ev x with
    | .ptr id i off => some (.ptr id i off)
    | .iptr l => some (.iptr l)
    | _ => none
  | .load t x => match Γ t with
    | some ti => loadA ti st.objs (st.ev x)
    | none => none
  | .build t parts => match Γ t with
    | some ti => buildA Γ ti (parts.toList.map fun p => (p.1, st.ev p.2))
    | none => none
  | .fieldAddr s x f => match Γ s with
    | some ⟨_, _, _, .struct fs, _⟩ => match fs[f]? with
      | some fl => match Γ fl.type with
        | some tf => fieldAddrA fl.offset tf.size (st.ev x)
        | none => none
      | none => none
    | _ => none
  | .field s x f => match Γ s with
    | some ⟨_, _, _, .struct fs, _⟩ => match fs[f]?, st.ev x with
      | some fl, .agg l => match Γ fl.type with
        | some tf => loadCellsA tf l fl.offset
        | none => none
      | _, _ => none
    | _ => none
  | .indexAddr t x ix => match Γ t with
    | some ti => match Γ (elemD ti.desc) with
      | some te => indexA ti te st.objs (st.ev x) (st.ev ix)
      | none => none
    | none => none
  | .index t x ix => match Γ t with
    | some ⟨_, _, _, .string, _⟩ => strIndexA (st.ev x) (st.ev ix)
    | _ => none
  | .slice t x lo hi none => match Γ t with
    | some ⟨_, _, _, .slice el, _⟩ => match Γ el with
      | some te => sliceS te.size st.objs (st.ev x) (lo.map st.ev) (hi.map st.ev)
      | none => none
    | some ⟨_, _, _, .string, _⟩ => (match st.ev x with
      | .val (.string s) => sliceA (.val (.string s)) (lo.map st.ev) (hi.map st.ev)
      | _ => none)
    | _ => none
  | .extract x i => match st.ev x with
    | .tup l => l[i]?
    | _ => none
  | .binOp op t x y _ => binA (Γ t) op (st.ev x) (st.ev y)
  | .unOp op _ x => unA op (st.ev x)
  | .convert s d x => convA Γ s d (st.ev x)
  | .makeFunc (.func f) first cap => if first = #[] then some (.clo f (cap.toList.map st.ev)) else none
  | .call { callee := .builtin b, args, argTypes } => match b, args.toList, argTypes.toList with
    | .len, [x], [t] => match Γ t with
      | some ti => lenA ti (st.ev x)
      | none => none
    | .min, x :: r, _ => match st.ev x with
      | .val v => (minA false v (r.map st.ev)).map .val
      | _ => none
    | .max, x :: r, _ => match st.ev x with
      | .val v => (minA true v (r.map st.ev)).map .val
      | _ => none
    | _, _, _ => none
  | _ => none

/-- operations that make or write objects -/
noncomputable def evalW0 (Γ : TypeId → Option TI) (o : Oper) (st : St) : Option (AV × St) :=
  match o.op with
  | .store t p x => match Γ t with
    | some ti => (st.storeAt ti.size (st.ev p) (st.ev x)).map fun s => (.dead, s)
    | none => none
  | .alloc el => match Γ el, slotId o with
    | some ti, some id => st.box id el (zeroA ti.zero)
    | _, _ => none
  | .box el x => match slotId o with
    | some id => st.box id el (st.ev x)
    | none => none
  | .buildSlice t len parts => match Γ t, slotId o with
    | some ⟨_, _, _, .slice el, _⟩, some id => match Γ el with
      | some te => st.buildSlice te el id len (parts.toList.map fun p => (p.1, st.ev p.2))
      | none => none
    | _, _ => none
  | .makeSlice t l c => match Γ t, slotId o with
    | some ⟨_, _, _, .slice el, _⟩, some id => match Γ el with
      | some te => st.makeSlice te el id (st.ev l) (st.ev c)
      | none => none
    | _, _ => none
  | .call { callee := .builtin b, args, argTypes } => match b, args.toList, argTypes.toList with
    | .append, [s, x], [t, t'] => if t = t' then (match Γ t, slotId o with
      | some ⟨_, _, _, .slice ty, _⟩, some id => match Γ ty with
        | some te => st.appendA te ty id (st.ev s) (st.ev x)
        | none => none
      | _, _ => none) else none
    | _, _, _ => none
  | _ => none

/-- the map's, key's and element's types -/
def mapT (Γ : TypeId → Option TI) (t : TypeId) : Option (TI × TI) :=
  match Γ t with
  | some ⟨_, _, _, .map kt et, _⟩ => match Γ kt, Γ et with
    | some tk, some te => some (tk, te)
    | _, _ => none
  | _ => none
noncomputable def evalP (Γ : TypeId → Option TI) (o : Oper) (st : St) : Option AV :=
  match o.op with
  | .lookup t m k ok => match mapT Γ t with
    | some (tk, te) => lookupA tk te st.objs (st.ev m) (st.ev k) ok
    | none => none
  | .call { callee := .builtin .len, args, argTypes } => match args.toList, argTypes.toList with
    | [x], [t] => match mapT Γ t with
      | some _ => lenM st.objs (st.ev x)
      | none => evalP0 Γ o st
    | _, _ => none
  | _ => evalP0 Γ o st
noncomputable def evalW (Γ : TypeId → Option TI) (o : Oper) (st : St) : Option (AV × St) :=
  match o.op with
  | .makeMap t none => match mapT Γ t, slotId o with
    | some (tk, _), some id => st.makeMap tk id
    | _, _ => none
  | .mapUpdate t m k x => match mapT Γ t with
    | some (tk, _) => (st.mapSet tk (st.ev m) (st.ev k) (st.ev x)).map fun s => (.dead, s)
    | none => none
  | .call { callee := .builtin .delete, args, argTypes } => match args.toList, argTypes.toList with
    | [m, k], [t, _] => match mapT Γ t with
      | some (tk, _) => (st.mapDel tk (st.ev m) (st.ev k)).map fun s => (.dead, s)
      | none => none
    | _, _ => none
  | _ => evalW0 Γ o st

def isWrite (o : Oper) : Bool :=
  match o.op with
  | .store .. | .alloc _ | .box .. | .buildSlice .. | .makeSlice .. | .makeMap .. | .mapUpdate .. => true
  | .call { callee := .builtin .delete, .. } => true
  | .call { callee := .builtin .append, .. } => true
  | _ => false

/-- every operation that is no call of a function -/
noncomputable def evalAll (Γ : TypeId → Option TI) (o : Oper) (st : St) : Option (AV × St) :=
  match isWrite o with
  | true => evalW Γ o st
  | false => match evalP Γ o st with
    | some r => some (r, st)
    | none => none

/-- One operation's run, from a to what stands behind it. -/
def StepsTo (P : Program) (o : Oper) (a : Act) (w : World) (v : Value) (w' : World) : Prop :=
  (execOp a.eval o).run P w = .ok (.value v) w' ∨ ((execOp a.eval o).run P w = .ok .skip w' ∧ v = undef)

/-- what is to be shown of an operation -/
def OpOk (P : Program) (o : Oper) (st' : St) (r : AV) (a : Act) (w : World) (e : Env) : Prop :=
  ∃ v w' e', StepsTo P o a w v w' ∧ Conc st' a w' e' ∧ Fr w e w' e' ∧ Rd w' e' r v

structure View (st : St) (a : Act) (w : World) (e : Env) : Prop where
  ev : ∀ o, Rd w e (st.ev o) (a.eval o)
  obj : ∀ id o m, look id st.objs = some o → e.get id = some m → ObjOk w e m o

theorem Conc.view {st : St} {a : Act} {w : World} {e : Env} (h : Conc st a w e) : View st a w e := ⟨h.ev, h.sim.obj⟩

def PureOk (P : Program) (o : Oper) (r : AV) (a : Act) (w : World) (e : Env) : Prop := ∃ v, (execOp a.eval o).run P w = .ok (.value v) w ∧ Rd w e r v

theorem PureOk.mk {o : Oper} {r : AV} {a : Act} {w : World} {e : Env} {s : Sem Value} {v : Value} (hx : execOp a.eval o = (do pure (Next.value (← s)))) (hs : s.run P w = .ok v w) (hr : Rd w e r v) : PureOk P o r a w e :=
  ⟨v, by rw [hx]; simp [hs], hr⟩

theorem map_rd {st : St} {a : Act} {w : World} {e : Env} (h : View st a w e) (xs : List Operand) : ∀ (i : Nat) (x : AV) (v : Value), (xs.map st.ev)[i]? = some x → (xs.map a.eval)[i]? = some v → Rd w e x v := by
  intro i x v hx hv
  rw [List.getElem?_map] at hx hv
  cases hi : xs[i]? with
  | none => rw [hi] at hx; simp at hx
  | some y => rw [hi] at hx hv; simp at hx hv; subst hx; subst hv; exact h.ev y

theorem parts_rd {st : St} {a : Act} {w : World} {e : Env} (h : View st a w e) (ps : List (Nat × Operand)) : ∀ (i : Nat) (p : Nat × AV) (q : Nat × Value), (ps.map fun p => (p.1, st.ev p.2))[i]? = some p → (ps.map fun p => (p.1, a.eval p.2))[i]? = some q → p.1 = q.1 ∧ Rd w e p.2 q.2 := by
  intro i p q hp hq
  rw [List.getElem?_map] at hp hq
  cases hi : ps[i]? with
  | none => rw [hi] at hp; simp at hp
  | some y => rw [hi] at hp hq; simp at hp hq; subst hp; subst hq; exact ⟨rfl, h.ev y.2⟩

theorem iptr_inv {w : World} {e : Env} {l : List AV} {v : Value} (h : Rd w e (.iptr l) v) : ∃ b off, v = .pointer (some ⟨b, off, none⟩) := by
  cases h with
  | data h => cases h
  | iptr _ b off vals hne hq hc hr => exact ⟨b, off, rfl⟩

theorem optRd {st : St} {a : Act} {w : World} {e : Env} (h : View st a w e) (x : Option Operand) : OptRd w e (x.map st.ev) (x.map a.eval) := by
  cases x with
  | none => trivial
  | some y => exact h.ev y

theorem evalP0_ok (hΓ : TOk P Γ) {o : Oper} {st : St} {r : AV} (hr : evalP0 Γ o st = some r) {a : Act} {w : World} {e : Env} (h : View st a w e) : PureOk P o r a w e := by
  unfold evalP0 at hr
  split at hr
  · rename_i x ho
    cases hr
    exact ⟨a.eval x, by simp [execOp, ho], h.ev x⟩
  · rename_i x ho
    cases hr
    exact ⟨a.eval x, by simp [execOp, ho], h.ev x⟩
  · rename_i c x y ho
    split at hr
    · rename_i t hc
      cases hr
      have h1 := h.ev c
      rw [hc] at h1
      have h2 := h1.val_inv
      refine ⟨if t then a.eval x else a.eval y, by cases t <;> simp [execOp, ho, h2, asBool], ?_⟩
      cases t
      · exact h.ev y
      · exact h.ev x
    · cases hr
  · rename_i x ho
    split at hr
    · rename_i id i off hx
      cases hr
      have h1 := h.ev x
      rw [hx] at h1
      obtain ⟨ad, hv⟩ := ptr_some h1
      exact ⟨a.eval x, by simp [execOp, ho, hv], h1⟩
    · rename_i l hx
      cases hr
      have h1 := h.ev x
      rw [hx] at h1
      obtain ⟨b, off, hv⟩ := iptr_inv h1
      exact ⟨a.eval x, by simp [execOp, ho, hv], h1⟩
    · cases hr
  · rename_i t x ho
    split at hr
    · rename_i ti ht
      obtain ⟨v, h1, h2⟩ := run_loadA (hΓ _ _ ht) h.obj (h.ev x) hr
      exact .mk (s := Instr.loadAt t (a.eval x)) (by simp [execOp, ho]) h1 h2
    · cases hr
  · rename_i t parts ho
    split at hr
    · rename_i ti ht
      obtain ⟨v, h1, h2⟩ := run_buildA hΓ (hΓ _ _ ht) (w := w) (e := e) (vparts := parts.toList.map fun p => (p.1, a.eval p.2)) (by simp) (parts_rd h parts.toList) hr
      refine .mk (s := Instr.build t (parts.toList.map fun p => (p.1, a.eval p.2)).toArray) ?_ h1 h2
      simp only [execOp, ho]
      congr 3
      apply Array.ext'; simp
    · cases hr
  · rename_i s x f ho
    split at hr
    · rename_i s1 s2 s3 fs s4 ht
      split at hr
      · rename_i fl hf
        split at hr
        · rename_i tf htf
          obtain ⟨v, h1, h2⟩ := run_fieldAddrA (hΓ _ _ ht) rfl hf (hΓ _ _ htf) (h.ev x) hr
          exact .mk (s := Instr.fieldAt s (a.eval x) f) (by simp [execOp, ho]) h1 h2
        · cases hr
      · cases hr
    · cases hr
  · rename_i s x f ho
    split at hr
    · rename_i s1 s2 s3 fs s4 ht
      split at hr
      · rename_i fl l hf hx
        split at hr
        · rename_i tf htf
          have h1 := h.ev x
          rw [hx] at h1
          obtain ⟨vs, hv, hs, hvr⟩ := h1.agg_inv
          obtain ⟨v, h1, h2⟩ := run_partA (hΓ _ _ htf) hs hvr hr
          have hu := run_und (hΓ _ _ ht) w
          refine .mk (s := Instr.field s (a.eval x) f) (by simp [execOp, ho]) ?_ h2
          simp [Instr.field, hu, hf, hv, asAgg, h1]
        · cases hr
      · cases hr
    · cases hr
  · rename_i t x ix ho
    split at hr
    · rename_i ti ht
      split at hr
      · rename_i te hte
        obtain ⟨v, h1, h2⟩ := run_indexA (hΓ _ _ ht) (hΓ _ _ hte) h.obj (h.ev x) (h.ev ix) hr
        exact .mk (s := Instr.indexAt t (a.eval x) (a.eval ix)) (by simp [execOp, ho]) h1 h2
      · cases hr
    · cases hr
  · rename_i t x ix ho
    split at hr
    · rename_i s1 s2 s3 s4 ht
      unfold strIndexA at hr
      split at hr
      · rename_i s k n hx hi
        split at hr
        · rename_i hn
          obtain ⟨b, hb, rfl⟩ := Option.map_eq_some_iff.1 hr
          have h1 := h.ev x
          rw [hx] at h1
          have h2 := h.ev ix
          rw [hi] at h2
          have e1 := h1.val_inv
          have e2 := h2.val_inv
          refine .mk (s := Instr.index t (a.eval x) (a.eval ix)) (v := .int .u8 b.toNat) (by simp [execOp, ho]) ?_ (.data (.val _))
          simp [Instr.index, asIntOf, e1, e2, run_und (hΓ _ _ ht), hn, hb]
        · cases hr
      · cases hr
    · cases hr
  · rename_i t x lo hi ho
    split at hr
    · rename_i s1 s2 s3 el s4 ht
      split at hr
      · rename_i te hte
        unfold sliceS at hr
        have key : ∀ X : AV, st.ev x = X → (∀ id off len m, X = .own id off len → e.get id = some m → m.sz = te.size) → (∀ l y, X = .imm l → l[0]? = some y → y.cells.length = te.size) → (∀ s, X ≠ .val (.string s)) → sliceA X (lo.map st.ev) (hi.map st.ev) = some r → PureOk P o r a w e := by
          intro X hX g1 g2 g3 g4
          obtain ⟨v, h1, h2⟩ := run_sliceA (hΓ _ _ ht) (.inl ⟨el, rfl⟩) (te := te) (fun el' hel => by cases hel; exact hΓ _ _ hte) (hX ▸ h.ev x) (optRd h lo) (optRd h hi) g1 g2 g4 (by
            split
            · exact absurd rfl (g3 _)
            · exact ⟨el, rfl⟩)
          exact .mk (s := Instr.sliceAt t (a.eval x) (lo.map a.eval) (hi.map a.eval) none) (by simp [execOp, ho]) h1 h2
        split at hr
        · rename_i id off len hx
          split at hr
          · rename_i dd ty s els hl
            split at hr
            · rename_i hs
              refine key _ hx (fun id' off' len' m he hm => ?_) (fun l y he => by cases he) (fun s he => by cases he) hr
              cases he
              have := (h.obj id _ m hl hm).hsz
              rw [this, hs]
            · cases hr
          · cases hr
        · rename_i l hx
          split at hr
          · rename_i hall
            simp only [List.all_eq_true, beq_iff_eq] at hall
            refine key _ hx (fun id' off' len' m he => by cases he) (fun l' y he hy => ?_) (fun s he => by cases he) hr
            cases he
            exact hall y (List.mem_of_getElem? hy)
          · cases hr
        · rename_i hx
          exact key _ hx (fun id' off' len' m he => by cases he) (fun l y he => by cases he) (fun s he => by cases he) hr
        · cases hr
      · cases hr
    · rename_i s1 s2 s3 s4 ht
      split at hr
      · rename_i s hx
        obtain ⟨v, h1, h2⟩ := run_sliceA (hΓ _ _ ht) (.inr rfl) (te := ⟨0, 0, .nilFunc, .bool, false⟩) (fun el' hel => by cases hel) (hx ▸ h.ev x) (optRd h lo) (optRd h hi) (fun id off len m he => by cases he) (fun l y he => by cases he) hr rfl
        exact .mk (s := Instr.sliceAt t (a.eval x) (lo.map a.eval) (hi.map a.eval) none) (by simp [execOp, ho]) h1 h2
      · cases hr
    · cases hr
  · rename_i x i ho
    split at hr
    · rename_i l hx
      have h1 := h.ev x
      rw [hx] at h1
      obtain ⟨vs, hv, hs, hvr⟩ := h1.tup_inv
      have hi : i < vs.size := by rw [hs]; exact (List.getElem?_eq_some_iff.1 hr).1
      refine .mk (s := Instr.extract (a.eval x) i) (v := vs[i]) (by simp [execOp, ho]) ?_ (hvr i _ _ hr (Array.getElem?_eq_getElem hi))
      simp [Instr.extract, hv, Array.getElem?_eq_getElem hi]
    · cases hr
  · rename_i op t x y yt ho
    obtain ⟨v, h1, h2⟩ := run_binA (P := P) (t := t) (fun i hi => hΓ t i hi) (h.ev x) (h.ev y) hr x y
    exact .mk (s := (do eqGuard op t x y (a.eval x) (a.eval y); binOp op t (a.eval x) (a.eval y))) (by simp [execOp, ho]) h1 h2
  · rename_i op t x ho
    unfold unA at hr
    split at hr
    · rename_i b hx
      cases hr
      have h1 := h.ev x
      rw [hx] at h1
      have e1 := h1.val_inv
      exact .mk (s := Op.unary .not (a.eval x)) (v := .bool !b) (by simp [execOp, ho]) (by simp [Op.unary, e1]) (.data (.val _))
    · rename_i k n hx
      cases hr
      have h1 := h.ev x
      rw [hx] at h1
      have e1 := h1.val_inv
      exact .mk (s := Op.unary .neg (a.eval x)) (v := .int k (k.wrap (0 - n))) (by simp [execOp, ho]) (by simp [Op.unary, e1, Op.intArith]) (.data (.val _))
    · cases hr
  · rename_i s d x ho
    unfold convA at hr
    split at hr
    · rename_i ts s1 s2 s3 k s4 kk n hs hd hx
      cases hr
      have h1 := h.ev x
      rw [hx] at h1
      have e1 := h1.val_inv
      refine .mk (s := convert s d (a.eval x)) (v := .int k (k.wrap n)) (by simp [execOp, ho]) ?_ (.data (.val _))
      have hds := run_und (hΓ _ _ hs) w
      simp only [convert, Sem.run_bind, hds, Result.andThen_ok, run_und (hΓ _ _ hd), e1]
      cases ts.desc <;> simp [Conv.intToInt]
    · rename_i ts s1 s2 s3 s4 str hs hd hx
      cases hr
      have h1 := h.ev x
      rw [hx] at h1
      have e1 := h1.val_inv
      refine .mk (s := convert s d (a.eval x)) (v := .string str) (by simp [execOp, ho]) ?_ (.data (.val _))
      have hds := run_und (hΓ _ _ hs) w
      simp only [convert, Sem.run_bind, hds, Result.andThen_ok, run_und (hΓ _ _ hd), e1]
      cases ts.desc <;> simp
    · cases hr
  · rename_i f first cap ho
    split at hr
    · rename_i hf
      cases hr
      subst hf
      refine .mk (s := Instr.makeFunc (.func f) #[] (cap.map a.eval)) (v := .func (.func f) #[] (cap.map a.eval)) (by simp [execOp, ho]) rfl ?_
      refine .clo f _ _ (by simp) fun i x v hx hv => map_rd h cap.toList i x v hx ?_
      simpa using hv
    · cases hr
  · rename_i b args tys ho
    have hA : args = args.toList.toArray := by simp
    have hT : tys = tys.toList.toArray := by simp
    generalize args.toList = al at hr hA
    generalize tys.toList = tl at hr hT
    subst hA; subst hT
    split at hr
    · rename_i x t
      split at hr
      · rename_i ti ht
        obtain ⟨v, h1, h2⟩ := run_lenA (hΓ _ _ ht) (h.ev x) hr o.type
        exact ⟨v, by simp [execOp, ho, resolve, invoke, builtin, h1], h2⟩
      · cases hr
    · rename_i _ x rest
      split at hr
      · rename_i v hx
        obtain ⟨r', hr', rfl⟩ := Option.map_eq_some_iff.1 hr
        have h1 := h.ev x
        rw [hx] at h1
        have e1 := h1.val_inv
        have := run_minA (P := P) (w := w) (e := e) false (rest.map st.ev) (rest.map a.eval) v r' (by simp) (map_rd h rest) hr'
        simp only [Bool.false_eq_true, if_false] at this
        exact ⟨r', by simp [execOp, ho, resolve, invoke, builtin, Builtin.min_, e1, this], .data (.val _)⟩
      · cases hr
    · rename_i _ x rest
      split at hr
      · rename_i v hx
        obtain ⟨r', hr', rfl⟩ := Option.map_eq_some_iff.1 hr
        have h1 := h.ev x
        rw [hx] at h1
        have e1 := h1.val_inv
        have := run_minA (P := P) (w := w) (e := e) true (rest.map st.ev) (rest.map a.eval) v r' (by simp) (map_rd h rest) hr'
        simp only [if_true] at this
        exact ⟨r', by simp [execOp, ho, resolve, invoke, builtin, Builtin.max_, e1, this], .data (.val _)⟩
      · cases hr
    · cases hr
  · cases hr

theorem mapT_inv (hΓ : TOk P Γ) {t : TypeId} {tk te : TI} (h : mapT Γ t = some (tk, te)) : ∃ kt et, P.underlying t = some (.map kt et) ∧ TIOk P kt tk ∧ TIOk P et te := by
  unfold mapT at h
  split at h
  · rename_i a b c kt et d ht
    split at h
    · rename_i x y hk he
      cases h
      exact ⟨kt, et, (hΓ _ _ ht).und, hΓ _ _ hk, hΓ _ _ he⟩
    · cases h
  · cases h
theorem evalP_ok (hΓ : TOk P Γ) {o : Oper} {st : St} {r : AV} (hr : evalP Γ o st = some r) {a : Act} {w : World} {e : Env} (h : View st a w e) : PureOk P o r a w e := by
  unfold evalP at hr
  split at hr
  · rename_i t m k ok ho
    split at hr
    · rename_i tk te hm
      obtain ⟨kt, et, h1, h2, h3⟩ := mapT_inv hΓ hm
      obtain ⟨v, g1, g2⟩ := run_lookupA h1 h2 h3 h.obj (h.ev m) (h.ev k) hr
      exact .mk (s := Instr.lookup t (a.eval m) (a.eval k) ok) (by simp [execOp, ho]) g1 g2
    · cases hr
  · rename_i args tys ho
    have hA : args = args.toList.toArray := by simp
    have hT : tys = tys.toList.toArray := by simp
    split at hr
    · rename_i x t ha ht
      split at hr
      · rename_i q hm
        rw [ha] at hA; rw [ht] at hT
        subst hA; subst hT
        obtain ⟨kt, et, h1, h2, h3⟩ := mapT_inv hΓ hm
        obtain ⟨v, g1, g2⟩ := run_lenM h1 h.obj (h.ev x) hr (rt := o.type)
        exact ⟨v, by simp [execOp, ho, resolve, invoke, builtin, g1], g2⟩
      · exact evalP0_ok hΓ hr h
    · cases hr
  · exact evalP0_ok hΓ hr h

theorem evalW0_ok (hΓ : TOk P Γ) {o : Oper} {st st' : St} {r : AV} (hr : evalW0 Γ o st = some (r, st')) {a : Act} {w : World} {e : Env} (h : Conc st a w e) : OpOk P o st' r a w e := by
  unfold evalW0 at hr
  split at hr
  · rename_i t p x ho
    split at hr
    · rename_i ti ht
      obtain ⟨s', hs', hE⟩ := Option.map_eq_some_iff.1 hr
      cases hE
      obtain ⟨w', e', h1, h2, h3⟩ := h.storeAt (hΓ _ _ ht) (h.ev p) (h.ev x) hs'
      exact ⟨undef, w', e', .inr ⟨by simp [execOp, ho, h1], rfl⟩, h2, h3, .dead _⟩
    · cases hr
  · rename_i el ho
    split at hr
    · rename_i ti id ht hid
      obtain ⟨w', e', h1, h2, h3, h4⟩ := h.box (P := P) (rd_zeroA ti.zero) hr
      exact ⟨_, w', e', .inl (by simp [execOp, ho, run_alloc_box (hΓ _ _ ht), h1]), h2, h3, h4⟩
    · cases hr
  · rename_i el x ho
    split at hr
    · rename_i id hid
      obtain ⟨w', e', h1, h2, h3, h4⟩ := h.box (P := P) (h.ev x) hr
      exact ⟨_, w', e', .inl (by simp [execOp, ho, h1]), h2, h3, h4⟩
    · cases hr
  · rename_i t len parts ho
    split at hr
    · rename_i s1 s2 s3 el s4 id ht hid
      split at hr
      · rename_i te hte
        obtain ⟨v, w', e', h1, h2, h3, h4⟩ := h.buildSlice (hΓ _ _ ht) rfl (hΓ _ _ hte) (vparts := parts.toList.map fun p => (p.1, a.eval p.2)) (by simp) (parts_rd h.view parts.toList) hr
        have hx : execOp a.eval o = (do pure (Next.value (← Instr.buildSlice t len (parts.toList.map fun p => (p.1, a.eval p.2)).toArray))) := by
          simp only [execOp, ho]
          congr 3
          apply Array.ext'; simp
        exact ⟨v, w', e', .inl (by rw [hx]; simp [h1]), h2, h3, h4⟩
      · cases hr
    · cases hr
  · rename_i t l c ho
    split at hr
    · rename_i s1 s2 s3 el s4 id ht hid
      split at hr
      · rename_i te hte
        obtain ⟨v, w', e', h1, h2, h3, h4⟩ := h.makeSlice (hΓ _ _ ht) rfl (hΓ _ _ hte) (h.ev l) (h.ev c) hr
        exact ⟨v, w', e', .inl (by simp [execOp, ho, h1]), h2, h3, h4⟩
      · cases hr
    · cases hr
  · rename_i b args tys ho
    have hA : args = args.toList.toArray := by simp
    have hT : tys = tys.toList.toArray := by simp
    generalize args.toList = al at hr hA
    generalize tys.toList = tl at hr hT
    subst hA; subst hT
    split at hr
    · rename_i s x t t'
      split at hr
      · rename_i htt
        subst htt
        split at hr
        · rename_i s1 s2 s3 ty s4 id ht hid
          split at hr
          · rename_i te hte
            obtain ⟨v, w', e', h1, h2, h3, h4⟩ := h.appendA (hΓ _ _ ht) rfl (hΓ _ _ hte) o.type (h.ev s) (h.ev x) hr
            exact ⟨v, w', e', .inl (by simp [execOp, ho, resolve, invoke, builtin, h1]), h2, h3, h4⟩
          · cases hr
        · cases hr
      · cases hr
    · cases hr
  · cases hr

theorem evalW_ok (hΓ : TOk P Γ) {o : Oper} {st st' : St} {r : AV} (hr : evalW Γ o st = some (r, st')) {a : Act} {w : World} {e : Env} (h : Conc st a w e) : OpOk P o st' r a w e := by
  unfold evalW at hr
  split at hr
  · rename_i t ho
    split at hr
    · rename_i tk te id hm hid
      obtain ⟨v, w', e', h1, h2, h3, h4⟩ := h.makeMap (P := P) (t := t) hr
      exact ⟨v, w', e', .inl (by simp [execOp, ho, h1]), h2, h3, h4⟩
    · cases hr
  · rename_i t m k x ho
    split at hr
    · rename_i tk te hm
      obtain ⟨s', hs', hE⟩ := Option.map_eq_some_iff.1 hr
      cases hE
      obtain ⟨kt, et, q1, q2, q3⟩ := mapT_inv hΓ hm
      obtain ⟨w', h1, h2, h3⟩ := h.mapSet q1 q2 (h.ev m) (h.ev k) (h.ev x) hs'
      exact ⟨undef, w', e, .inr ⟨by simp [execOp, ho, h1], rfl⟩, h2, h3, .dead _⟩
    · cases hr
  · rename_i args tys ho
    have hA : args = args.toList.toArray := by simp
    have hT : tys = tys.toList.toArray := by simp
    split at hr
    · rename_i m k t t2 ha ht
      split at hr
      · rename_i tk te hm
        rw [ha] at hA; rw [ht] at hT
        subst hA; subst hT
        obtain ⟨s', hs', hE⟩ := Option.map_eq_some_iff.1 hr
        cases hE
        obtain ⟨kt, et, q1, q2, q3⟩ := mapT_inv hΓ hm
        obtain ⟨w', h1, h2, h3⟩ := h.mapDel q1 q2 (h.ev m) (h.ev k) hs' (t2 := t2) (rt := o.type)
        exact ⟨.tuple #[], w', e, .inl (by simp [execOp, ho, resolve, invoke, builtin, h1]), h2, h3, .dead _⟩
      · cases hr
    · cases hr
  · exact evalW0_ok hΓ hr h

theorem evalAll_ok (hΓ : TOk P Γ) {o : Oper} {st st' : St} {r : AV} (hr : evalAll Γ o st = some (r, st')) {a : Act} {w : World} {e : Env} (h : Conc st a w e) : OpOk P o st' r a w e := by
  unfold evalAll at hr
  split at hr
  · exact evalW_ok hΓ hr h
  · split at hr
    · rename_i r' hr'
      cases hr
      obtain ⟨v, h1, h2⟩ := evalP_ok hΓ hr' h.view
      exact ⟨v, w, e, .inl h1, h, Fr.refl w e, h2⟩
    · cases hr
#print axioms evalAll_ok
end
end Go.Sim
