/- What the operations do on abstract values: those that turn nothing. -/
import Derived.Test.YtggbbldoopfejaaSb
import Derived.Orders
import Derived.Laws.StructEq
import Derived.Laws.Slices
import Derived.Maps.Keyed
import Derived.DeepKeys4
namespace Go.Sim
open Go.RowKit

/-! ### types -/
def eqVals : List Value → List Value → Option Bool
  | [], [] => some true
  | .int k a :: xs, .int k' b :: ys => if k = k' then (eqVals xs ys).map ((a == b) && ·) else none
  | _, _ => none

structure TI where
  size : Nat
  bytes : Nat
  zero : Value
  desc : TypeDesc
  flat : Bool

def isAggD : TypeDesc → Bool
  | .struct _ | .array _ _ => true
  | _ => false

def EqFlat (P : Program) (t : TypeId) : Prop :=
  P.eqGuardType P.depth t = false ∧ ∀ (w : World) (xs ys : List Value) (r : Bool), eqVals xs ys = some r → (P.info? t).map (·.size) = some xs.length → (Op.equalIn 10000 t (.agg xs.toArray) (.agg ys.toArray)).run P w = .ok r w

/-- what a map may ask of its keys' type -/
def KeyTI (P : Program) (t : TypeId) (sh : Value) : Prop := Maps.Keyed P t ∧ ∀ v, fitsKey sh v = true → ∃ l, keyOf P t v = some l

structure TIOk (P : Program) (t : TypeId) (i : TI) : Prop where
  info : (P.info? t).map (fun k => (k.size, k.bytes, k.zero)) = some (i.size, i.bytes, some i.zero)
  und : P.underlying t = some i.desc
  flat : i.flat = true → EqFlat P t ∧ KeyTI P t i.zero
  zsz : i.zero.cells.size = i.size
  zone : i.zero.cells.all (·.oneCell') = true

def TOk (P : Program) (Γ : TypeId → Option TI) : Prop := ∀ t i, Γ t = some i → TIOk P t i

section
variable {P : Program} {Γ : TypeId → Option TI}

theorem addr_add (b off n : Nat) : (⟨b, off, none⟩ : Addr).add n = ⟨b, off + n, none⟩ := by
  unfold Addr.add; split
  · rename_i h; subst h; rfl
  · rfl

theorem TIOk.parts {t : TypeId} {i : TI} (h : TIOk P t i) : ∃ k, P.info? t = some k ∧ k.size = i.size ∧ k.bytes = i.bytes ∧ k.zero = some i.zero := by
  have := h.info
  cases hk : P.info? t with
  | none => rw [hk] at this; simp at this
  | some k => rw [hk] at this; simp at this; exact ⟨k, rfl, this.1, this.2.1, this.2.2⟩

theorem run_size {t : TypeId} {i : TI} (h : TIOk P t i) (w : World) : (sizeOf t).run P w = .ok i.size w := by
  obtain ⟨k, hk, hs, _⟩ := h.parts
  simp [sizeOf, typeInfo, hk, hs]
theorem run_und {t : TypeId} {i : TI} (h : TIOk P t i) (w : World) : (underlying t).run P w = .ok i.desc w := run_underlying h.und w
theorem run_zero {t : TypeId} {i : TI} (h : TIOk P t i) (w : World) : (zeroValue t).run P w = .ok i.zero w := by
  obtain ⟨k, hk, _, _, hz⟩ := h.parts
  simp [zeroValue, typeInfo, hk, hz]
theorem run_agg {t : TypeId} {i : TI} (h : TIOk P t i) (w : World) : (isAgg t).run P w = .ok (isAggD i.desc) w := by
  simp only [isAgg, Sem.run_bind, run_und h, Result.andThen_ok]
  cases i.desc <;> simp [isAggD]

/-! ### loads -/
def loadCellsA (ti : TI) (cells : List AV) (off : Nat) : Option AV :=
  if isAggD ti.desc then (if off + ti.size ≤ cells.length then some (.agg ((cells.drop off).take ti.size)) else none) else cells[off]?

theorem run_loadVar_cells {t : TypeId} {ti : TI} (h : TIOk P t ti) {w : World} {e : Env} {b o off : Nat} {cells : List AV} {x : AV} (hx : loadCellsA ti cells off = some x)
    (hc : ∀ (j : Nat) (y : AV), cells[j]? = some y → ∃ v, w.cell? ⟨b, o + j, none⟩ = some v ∧ Rd w e y v) :
    ∃ v, (loadVar t ⟨b, o + off, none⟩).run P w = .ok v w ∧ Rd w e x v := by
  unfold loadCellsA at hx
  simp only [loadVar, Sem.run_bind, run_agg h, Result.andThen_ok]
  cases ha : isAggD ti.desc with
  | false =>
    simp only [ha, Bool.false_eq_true, if_false] at hx ⊢
    obtain ⟨v, hv, hr⟩ := hc off x hx
    exact ⟨v, by simp [hv], hr⟩
  | true =>
    simp only [ha, if_true] at hx ⊢
    split at hx
    · rename_i hle
      cases hx
      -- the values of the cells
      have hex : ∀ j, j < ti.size → ∃ v, w.cell? ⟨b, o + off + j, none⟩ = some v ∧ ∀ y, cells[off + j]? = some y → Rd w e y v := by
        intro j hj
        obtain ⟨v, hv, hr⟩ := hc (off + j) cells[off + j] (by rw [List.getElem?_eq_getElem])
        exact ⟨v, by rw [← hv, Nat.add_assoc], fun y hy => by rw [List.getElem?_eq_getElem (by omega)] at hy; cases hy; exact hr⟩
      let f : Nat → Value := fun j => ((w.cell? ⟨b, o + off + j, none⟩).getD undef)
      have hf : ∀ j, j < ti.size → w.cell? ((⟨b, o + off, none⟩ : Addr).add j) = some (f j) := by
        intro j hj
        obtain ⟨v, hv, _⟩ := hex j hj
        rw [addr_add]; simp [f, hv]
      refine ⟨.agg ((List.range ti.size).map f).toArray, ?_, ?_⟩
      · rw [Sem.run_bind, run_size h, Result.andThen_ok, Sem.run_bind, run_loadCells w _ _ f hf]; rfl
      · refine .agg _ _ (by simp; omega) fun i y v hy hv => ?_
        rw [List.getElem?_take] at hy
        split at hy
        · rename_i hi
          rw [List.getElem?_drop] at hy
          obtain ⟨u, hu, hr⟩ := hex i hi
          simp [List.getElem?_map, List.getElem?_range hi] at hv
          subst hv
          simp only [f, hu]
          exact hr y hy
        · cases hy
    · cases hx

/-! ### indexing, fields, slicing -/
def intOfV : Value → Option Int
  | .int _ n => some n
  | _ => none
def AV.int? : AV → Option Int
  | .val (.int _ n) => some n
  | _ => none

def indexA (ti te : TI) (objs : List (Nat × Obj)) (x ix : AV) : Option AV :=
  match ti.desc, x, ix with
  | .slice _, .imm l, .val (.int _ n) => if 0 ≤ n ∧ n < l.length then (match l[n.toNat]? with | some y => if y.cells.length = te.size then some (.iptr y.cells) else none | none => none) else none
  | .slice _, .own id off len, .val (.int _ n) => match look id objs with
    | some (.row _ _ sz _) => if sz = te.size ∧ 0 ≤ n ∧ n < len then some (.ptr id (off + n.toNat) 0) else none
    | _ => none
  | _, _, _ => none

/-- The element's type, of a slice's type. -/
def elemD : TypeDesc → TypeId
  | .slice e => e
  | _ => 0

theorem run_indexA {st : St} {w : World} {e : Env} {t : TypeId} {ti te : TI} (h : TIOk P t ti) (he : TIOk P (elemD ti.desc) te) (hs : ∀ id o m, look id st.objs = some o → e.get id = some m → ObjOk w e m o) {x ix r : AV} {vx vi : Value} (hx : Rd w e x vx) (hi : Rd w e ix vi)
    (hr : indexA ti te st.objs x ix = some r) : ∃ v, (Instr.indexAt t vx vi).run P w = .ok v w ∧ Rd w e r v := by
  unfold indexA at hr
  split at hr
  · rename_i el l k n hd
    split at hr
    · rename_i hn
      obtain rfl := hi.val_inv
      have hel : elemD ti.desc = el := by rw [hd]; rfl
      rw [hel] at he
      split at hr
      · rename_i y hy
        split at hr
        · rename_i hys
          cases hr
          cases hx with
          | data hx =>
            cases hx with
            | imm0 a cap => simp at hn; omega
            | imm _ b off cap sz vals hne hz hq hlen hcap hsz' hc hrr =>
              have hsz0 : sz = te.size := by rw [← hys, hsz' y (List.mem_of_getElem? hy)]
              subst hsz0
              refine ⟨.pointer (some ⟨b, off + n.toNat * te.size, none⟩), ?_, .iptr _ b _ (fun j => vals n.toNat j) ?_ hq (fun j z hz => (hc _ _ hy j z hz).1) (fun j z hz => hrr _ _ hy j z hz)⟩
              · simp [Instr.indexAt, asIntOf, run_und h, hd, hn.1, hn.2, run_size he, addr_add]
              · intro hnil
                rw [hnil] at hys; simp at hys; omega
        · cases hr
      · cases hr
    · cases hr
  · rename_i el id off len k n hd
    split at hr
    · rename_i dd ty sz els ho
      split at hr
      · rename_i hn
        obtain ⟨hsz, hn⟩ := hn
        cases hr
        obtain rfl := hi.val_inv
        have hel : elemD ti.desc = el := by rw [hd]; rfl
        rw [hel] at he
        cases hx with
        | data hx => cases hx
        | own0 _ m hm hb a => simp at hn; omega
        | ownX _ _ _ m hm hg a cap ha => exact absurd hg (hs id _ m ho hm).ngone
        | own _ _ _ m b hm hb hc =>
          have hms : m.sz = te.size := by rw [← hsz]; exact (hs id _ m ho hm).hsz
          refine ⟨.pointer (some ⟨b, off * m.sz + n.toNat * te.size, none⟩), ?_, ?_⟩
          · simp [Instr.indexAt, asIntOf, run_und h, hd, hn.1, hn.2, run_size he, addr_add]
          · have := Rd.ptr (w := w) (e := e) id (off + n.toNat) 0 m b hm hb
            rw [show off * m.sz + n.toNat * te.size = (off + n.toNat) * m.sz + 0 from by rw [hms, Nat.add_mul]; omega]
            exact this
      · cases hr
    · cases hr
  · cases hr

/-- load -/
def loadA (ti : TI) (objs : List (Nat × Obj)) (p : AV) : Option AV :=
  match p with
  | .iptr l => loadCellsA ti l 0
  | .ptr id i off => match look id objs with
    | some (.row _ _ _ els) => match els[i]? with
      | some x => loadCellsA ti x.cells off
      | none => none
    | _ => none
  | _ => none

theorem ptr_some {w : World} {e : Env} {id i off : Nat} {v : Value} (h : Rd w e (.ptr id i off) v) : ∃ a, v = .pointer (some a) := by
  cases h with
  | data h => cases h
  | ptr _ _ _ m b hm hb => exact ⟨_, rfl⟩
  | ptrX _ _ _ m hm hg a => exact ⟨_, rfl⟩
theorem ptr_inv {w : World} {e : Env} {id i off : Nat} {v : Value} (h : Rd w e (.ptr id i off) v) (hn : ∀ m, e.get id = some m → ¬ m.gone) : ∃ m b, e.get id = some m ∧ m.blk = some b ∧ v = .pointer (some ⟨b, i * m.sz + off, none⟩) := by
  cases h with
  | data h => cases h
  | ptrX _ _ _ m hm hg a => exact absurd hg (hn m hm)
  | ptr _ _ _ m b hm hb => exact ⟨m, b, hm, hb, rfl⟩

theorem run_loadA {st : St} {w : World} {e : Env} {t : TypeId} {ti : TI} (h : TIOk P t ti) (hs : ∀ id o m, look id st.objs = some o → e.get id = some m → ObjOk w e m o) {p r : AV} {vp : Value} (hp : Rd w e p vp) (hr : loadA ti st.objs p = some r) :
    ∃ v, (Instr.loadAt t vp).run P w = .ok v w ∧ Rd w e r v := by
  unfold loadA at hr
  split at hr
  · rename_i l
    cases hp with
    | data hp => cases hp
    | iptr _ b off vals hne hq hc hrr =>
      obtain ⟨v, h1, h2⟩ := run_loadVar_cells (e := e) h (b := b) (o := off) hr (fun j y hy => ⟨_, hc j y hy, .data (hrr j y hy)⟩)
      exact ⟨v, by simpa [Instr.loadAt, Instr.sureAddr] using h1, h2⟩
  · rename_i id i off
    split at hr
    · rename_i dd ty sz els ho
      split at hr
      · rename_i x hx
        obtain ⟨m, b, hm, hb, rfl⟩ := ptr_inv hp fun m hm => (hs id _ m ho hm).ngone
        have hk := hs id _ m ho hm
        have hkb := hk.blk
        simp only [hb] at hkb
        obtain ⟨cur, h1, h2, h3⟩ := hkb
        have hmsz : m.sz = sz := hk.hsz
        obtain ⟨v, g1, g2⟩ := run_loadVar_cells (e := e) (w := w) h (b := b) (o := i * m.sz) hr (fun j y hy => by
          obtain ⟨v, k1, k2, k3⟩ := h3 i x hx j y hy
          exact ⟨v, by rw [cell_of_row w b _ cur ty (0, 0) h1, hmsz]; exact k1, k3.rd⟩)
        exact ⟨v, by simpa [Instr.loadAt, Instr.sureAddr] using g1, g2⟩
      · cases hr
    · cases hr
  · cases hr

/-- the address of a field -/
def fieldsD : TypeDesc → Array Field
  | .struct fs => fs
  | _ => #[]

def fieldAddrA (off size : Nat) (p : AV) : Option AV :=
  if size = 0 then none else
  match p with
  | .iptr l => if off < l.length then some (.iptr (l.drop off)) else none
  | .ptr id i o => some (.ptr id i (o + off))
  | _ => none

theorem run_fieldAddrA {w : World} {e : Env} {t : TypeId} {ti tf : TI} (h : TIOk P t ti) {n : Nat} {fs : Array Field} {f : Field} (hd : ti.desc = .struct fs) (hf : fs[n]? = some f) (htf : TIOk P f.type tf) {p r : AV} {vp : Value}
    (hp : Rd w e p vp) (hr : fieldAddrA f.offset tf.size p = some r) : ∃ v, (Instr.fieldAt t vp n).run P w = .ok v w ∧ Rd w e r v := by
  unfold fieldAddrA at hr
  split at hr
  · cases hr
  rename_i hz
  split at hr
  · rename_i l
    split at hr
    · rename_i hlt
      cases hr
      cases hp with
      | data hp => cases hp
      | iptr _ b off vals hne hq hc hrr =>
        refine ⟨.pointer (some ⟨b, off + f.offset, none⟩), ?_, .iptr _ b _ (fun j => vals (f.offset + j)) ?_ hq (fun j y hy => ?_) (fun j y hy => ?_)⟩
        · simp [Instr.fieldAt, run_und h, hd, hf, Instr.sureAddr, fieldPlace, run_size htf, hz, addr_add]
        · intro hnil; have := congrArg List.length hnil; simp at this; omega
        · rw [List.getElem?_drop] at hy; rw [← hc _ y hy, Nat.add_assoc]
        · rw [List.getElem?_drop] at hy; exact hrr _ y hy
    · cases hr
  · rename_i id i o
    cases hr
    cases hp with
    | data hp => cases hp
    | ptr _ _ _ m b hm hb =>
      refine ⟨.pointer (some ⟨b, i * m.sz + o + f.offset, none⟩), ?_, ?_⟩
      · simp [Instr.fieldAt, run_und h, hd, hf, Instr.sureAddr, fieldPlace, run_size htf, hz, addr_add]
      · rw [Nat.add_assoc]; exact .ptr id i (o + f.offset) m b hm hb
    | ptrX _ _ _ m hm hg a =>
      refine ⟨.pointer (some (a.add f.offset)), ?_, .ptrX id i (o + f.offset) m hm hg _⟩
      simp [Instr.fieldAt, run_und h, hd, hf, Instr.sureAddr, fieldPlace, run_size htf, hz]
  · cases hr

/-- a part of a slice -/
def boundA (len : Nat) : Option AV → Option Nat
  | none => some len
  | some (.val (.int _ n)) => if 0 ≤ n then some n.toNat else none
  | _ => none
def lowA : Option AV → Option Nat
  | none => some 0
  | some (.val (.int _ n)) => if 0 ≤ n then some n.toNat else none
  | _ => none

def sliceA (x : AV) (lo hi : Option AV) : Option AV :=
  match x with
  | .imm l => match boundA l.length hi, lowA lo with
    | some h, some k => if k ≤ h ∧ h ≤ l.length then some (.imm ((l.take h).drop k)) else none
    | _, _ => none
  | .own id off len => match boundA len hi, lowA lo with
    | some h, some k => if k ≤ h ∧ h ≤ len then (if k = h then some (.imm []) else some (.own id (off + k) (h - k))) else none
    | _, _ => none
  | .val (.slice none 0 0) => match boundA 0 hi, lowA lo with
    | some h, some k => if k ≤ h ∧ h ≤ 0 then some (.val (.slice none 0 0)) else none
    | _, _ => none
  | .val (.string s) => match boundA s.size hi, lowA lo with
    | some h, some k => if k ≤ h ∧ h ≤ s.size then some (.val (.string (s.extract k h))) else none
    | _, _ => none
  | _ => none

def OptRd (w : World) (e : Env) : Option AV → Option Value → Prop
  | none, none => True
  | some x, some v => Rd w e x v
  | _, _ => False

theorem boundA_cases {w : World} {e : Env} {len : Nat} {hi : Option AV} {vh : Option Value} {h : Nat} (hb : boundA len hi = some h) (hm : OptRd w e hi vh) :
    (vh = none ∧ h = len) ∨ ∃ k n, vh = some (.int k n) ∧ 0 ≤ n ∧ n.toNat = h := by
  cases hi with
  | none =>
    cases vh with
    | some v => simp [OptRd] at hm
    | none => simp only [boundA, Option.some.injEq] at hb; exact .inl ⟨rfl, hb.symm⟩
  | some x =>
    cases vh with
    | none => simp [OptRd] at hm
    | some v =>
      simp only [OptRd] at hm
      simp only [boundA] at hb
      split at hb
      · rename_i heq; cases heq
      · rename_i k n heq
        cases heq
        split at hb
        · rename_i hn
          cases hb
          obtain rfl := hm.val_inv
          exact .inr ⟨k, n, rfl, hn, rfl⟩
        · cases hb
      · cases hb

theorem lowA_cases {w : World} {e : Env} {lo : Option AV} {vl : Option Value} {h : Nat} (hb : lowA lo = some h) (hm : OptRd w e lo vl) :
    (vl = none ∧ h = 0) ∨ ∃ k n, vl = some (.int k n) ∧ 0 ≤ n ∧ n.toNat = h :=
  boundA_cases (len := 0) (hi := lo) (by cases lo <;> simpa [boundA, lowA] using hb) hm

theorem boundsA_run {P : Program} {w : World} {e : Env} {len : Nat} {lo hi : Option AV} {vl vh : Option Value} {k h cap : Nat} (hb : boundA len hi = some h) (hl : lowA lo = some k) (hm : OptRd w e hi vh) (hn : OptRd w e lo vl)
    (h1 : k ≤ h) (h2 : h ≤ cap) (b : Bool) : (Instr.sliceBounds b len cap vl vh none).run P w = .ok (k, h, cap) w := by
  have hle : ∀ (n : Int) (k c : Nat), 0 ≤ n → n.toNat = k → k ≤ c → n ≤ (c : Int) := fun n k c a b d => by omega
  rcases boundA_cases hb hm with ⟨rfl, rfl⟩ | ⟨kh, nh, rfl, hnh, rfl⟩ <;> rcases lowA_cases hl hn with ⟨rfl, rfl⟩ | ⟨kl, nl, rfl, hnl, rfl⟩
  · simp [Instr.sliceBounds]
  · simp [Instr.sliceBounds, run_sliceBound w kl nl _ _ hnl (hle nl _ _ hnl rfl h1)]
  · simp [Instr.sliceBounds, run_sliceBound w kh nh _ _ hnh (hle nh _ _ hnh rfl h2)]
  · simp [Instr.sliceBounds, run_sliceBound w kh nh _ _ hnh (hle nh _ _ hnh rfl h2), run_sliceBound w kl nl _ _ hnl (hle nl _ _ hnl rfl h1)]

theorem run_sliceA {w : World} {e : Env} {t : TypeId} {ti te : TI} (h : TIOk P t ti) (hdesc : (∃ el, ti.desc = .slice el) ∨ ti.desc = .string) (he : ∀ el, ti.desc = .slice el → TIOk P el te) {x r : AV} {lo hi : Option AV} {vx : Value} {vl vh : Option Value}
    (hx : Rd w e x vx) (hl : OptRd w e lo vl) (hh : OptRd w e hi vh)
    (hsz : ∀ id off len m, x = .own id off len → e.get id = some m → m.sz = te.size) (hszi : ∀ l y, x = .imm l → l[0]? = some y → y.cells.length = te.size)
    (hr : sliceA x lo hi = some r) (hk : match x with | .val (.string _) => ti.desc = .string | _ => ∃ el, ti.desc = .slice el) : ∃ v, (Instr.sliceAt t vx vl vh none).run P w = .ok v w ∧ Rd w e r v := by
  have hat : ∀ v0, (Instr.sliceAt t v0 vl vh none).run P w = (Instr.slice t v0 vl vh none).run P w := by
    intro v0
    rcases hdesc with ⟨el, hd⟩ | hd <;> simp [Instr.sliceAt, run_und h, hd]
  rw [hat]
  have hslice : ∀ (el : TypeId) (a : Option Addr) (len cap k hh' : Nat), ti.desc = .slice el → boundA len hi = some hh' → lowA lo = some k → k ≤ hh' → hh' ≤ cap →
      (Instr.slice t (.slice a len cap) vl vh none).run P w = .ok (.slice (if cap = k then a else a.map (·.add (k * te.size))) (hh' - k) (cap - k)) w := by
    intro el a len cap k hh' hd hb hlo h1 h2
    have e1 := boundsA_run (P := P) hb hlo hh hl h1 h2 true
    have e3 := run_size (he el hd) w
    simp only [Instr.slice, Sem.run_bind, run_und h, Result.andThen_ok, hd, Sem.run_pure, e1, e3]
  unfold sliceA at hr
  split at hr
  · rename_i l
    obtain ⟨el, hd⟩ := hk
    split at hr
    · rename_i h' k hb hlo
      split at hr
      · rename_i hle
        cases hr
        cases hx with
        | data hx =>
          cases hx with
          | imm0 a cap =>
            simp at hle
            obtain ⟨h1, rfl⟩ := hle
            have : k = 0 := by omega
            subst this
            refine ⟨_, hslice el a 0 cap 0 0 hd (by simpa using hb) hlo (Nat.le_refl _) (Nat.zero_le _), ?_⟩
            exact .data (by simpa using RdD.imm0 (w := w) (q := e.q) _ cap)
          | imm _ b off cap sz vals hne hz hq hlen hcap hsz' hc hrr =>
            refine ⟨_, hslice el _ l.length cap k h' hd hb hlo hle.1 (by omega), ?_⟩
            by_cases hkh : k = h'
            · subst hkh
              have hz0 : (l.take k).drop k = [] := List.eq_nil_of_length_eq_zero (by simp)
              rw [hz0, Nat.sub_self]
              exact .data (.imm0 _ _)
            · rw [if_neg (by omega)]
              obtain ⟨y0, ys, rfl⟩ := List.exists_cons_of_ne_nil hne
              have hsz0 : sz = te.size := by rw [← hszi _ y0 rfl (by simp), hsz' y0 (by simp)]
              subst hsz0
              simp only [Option.map_some, addr_add]
              have hlen' : (((y0 :: ys).take h').drop k).length = h' - k := by
                rw [List.length_drop, List.length_take, Nat.min_eq_left hle.2]
              have hget : ∀ i x, (((y0 :: ys).take h').drop k)[i]? = some x → (y0 :: ys)[k + i]? = some x := by
                intro i x hx
                rw [List.getElem?_drop, List.getElem?_take] at hx
                split at hx
                · exact hx
                · cases hx
              have := RdD.imm (w := w) (q := e.q) (((y0 :: ys).take h').drop k) b (off + k * te.size) (cap - k) te.size (fun i j => vals (k + i) j) (by
                  intro hnil; rw [hnil] at hlen'; simp at hlen'; omega) hz hq (by rw [hlen']; omega) (by rw [hlen']; omega)
                (fun x hx => hsz' x (List.mem_of_mem_take (List.mem_of_mem_drop hx)))
                (fun i x hx j y hy => by
                  have := hc (k + i) x (hget i x hx) j y hy
                  rw [show off + k * te.size + i * te.size + j = off + (k + i) * te.size + j from by rw [Nat.add_mul]; omega]
                  exact this)
                (fun i x hx j y hy => hrr (k + i) x (hget i x hx) j y hy)
              rw [hlen'] at this
              exact .data this
      · cases hr
    · cases hr
  · rename_i id off len
    obtain ⟨el, hd⟩ := hk
    split at hr
    · rename_i h' k hb hlo
      split at hr
      · rename_i hle
        cases hx with
        | data hx => cases hx
        | own0 _ m hm hbk a =>
          have h0 : h' = 0 ∧ k = 0 := by omega
          obtain ⟨rfl, rfl⟩ := h0
          rw [if_pos rfl] at hr
          cases hr
          refine ⟨_, hslice el a 0 0 0 0 hd hb hlo (Nat.le_refl _) (Nat.le_refl _), ?_⟩
          exact .data (.imm0 _ _)
        | ownX _ _ _ m hm hg a cap ha hc =>
          refine ⟨_, hslice el a len cap k h' hd hb hlo hle.1 (by omega), ?_⟩
          by_cases hkh : k = h'
          · subst hkh
            rw [if_pos rfl] at hr
            cases hr
            rw [Nat.sub_self]
            exact .data (.imm0 _ _)
          · rw [if_neg hkh] at hr
            cases hr
            have hs0 := ha (by omega)
            cases a with
            | none => cases hs0
            | some a =>
              refine .ownX id (off + k) (h' - k) m hm hg _ (cap - k) (fun _ => ?_) (by omega)
              split <;> rfl
        | own _ _ _ m b hm hbk hc =>
          refine ⟨_, hslice el _ len (m.cap - off) k h' hd hb hlo hle.1 (by omega), ?_⟩
          by_cases hkh : k = h'
          · subst hkh
            rw [if_pos rfl] at hr
            cases hr
            rw [Nat.sub_self]
            exact .data (.imm0 _ _)
          · rw [if_neg hkh] at hr
            cases hr
            rw [if_neg (by omega)]
            have hs := hsz id off len m rfl hm
            simp only [Option.map_some, addr_add]
            have := Rd.own (w := w) (e := e) id (off + k) (h' - k) m b hm hbk (by omega)
            rw [show off * m.sz + k * te.size = (off + k) * m.sz from by rw [hs, Nat.add_mul], show m.cap - off - k = m.cap - (off + k) from by omega]
            exact this
      · cases hr
    · cases hr
  · obtain ⟨el, hd⟩ := hk
    split at hr
    · rename_i h' k hb hlo
      split at hr
      · rename_i hle
        cases hr
        obtain rfl := hx.val_inv
        have h0 : h' = 0 ∧ k = 0 := by omega
        obtain ⟨rfl, rfl⟩ := h0
        exact ⟨_, hslice el none 0 0 0 0 hd hb hlo (Nat.le_refl _) (Nat.le_refl _), .data (by simpa using RdD.val _)⟩
      · cases hr
    · cases hr
  · rename_i s
    split at hr
    · rename_i h' k hb hlo
      split at hr
      · rename_i hle
        cases hr
        obtain rfl := hx.val_inv
        have e1 := boundsA_run (P := P) hb hlo hh hl hle.1 hle.2 false
        refine ⟨.string (s.extract k h'), ?_, .data (.val _)⟩
        have hk' : ti.desc = .string := hk
        simp only [Instr.slice, Sem.run_bind, run_und h, Result.andThen_ok, hk', Option.isSome_none, Bool.false_eq_true, if_false, Sem.run_pure, e1]
      · cases hr
    · cases hr
  · cases hr
#print axioms run_sliceA
end
end Go.Sim
