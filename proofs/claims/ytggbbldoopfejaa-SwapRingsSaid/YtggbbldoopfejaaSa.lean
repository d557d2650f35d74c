/- Abstract values and the relation by which they read in the model's memory. -/
import Derived.Laws.AppendOwn
import Derived.Below
namespace Go.Sim
open Go.RowKit

/-- Abstract values. imm: a slice whose elements are data that nobody writes any more. own: a view of a slice object. ptr: a pointer into an object (element i, cell off). iptr: a pointer at data. -/
inductive AV where
  | dead
  | val (v : Value)
  | imm (l : List AV)
  | own (id off len : Nat)
  | ptr (id i off : Nat)
  | iptr (l : List AV)
  | map (id : Nat)
  | clo (f : FuncId) (cap : List AV)
  | agg (l : List AV)
  | tup (l : List AV)
  | yld (id : Nat)
  deriving Inhabited

def AV.cells : AV → List AV
  | .agg l => l
  | x => [x]

mutual
def AV.men (id : Nat) : AV → Bool
  | .own i _ _ => i == id
  | .ptr i _ _ => i == id
  | .map i => i == id
  | .yld i => i == id
  | .clo _ l => AV.menL id l
  | .agg l => AV.menL id l
  | .tup l => AV.menL id l
  | _ => false
def AV.menL (id : Nat) : List AV → Bool
  | [] => false
  | x :: xs => AV.men id x || AV.menL id xs
end

mutual
def AV.isData : AV → Bool
  | .val _ => true
  | .imm _ => true
  | .agg l => AV.isDataL l
  | _ => false
def AV.isDataL : List AV → Bool
  | [] => true
  | x :: xs => AV.isData x && AV.isDataL xs
end

theorem AV.menL_of {id : Nat} : ∀ {l : List AV} {x : AV}, x ∈ l → x.men id = true → AV.menL id l = true
  | y :: ys, x, hx, hm => by
    simp only [AV.menL, Bool.or_eq_true]
    rcases List.mem_cons.1 hx with rfl | h
    · exact .inl hm
    · exact .inr (AV.menL_of h hm)

theorem AV.isDataL_mem : ∀ {l : List AV} {x : AV}, AV.isDataL l = true → x ∈ l → x.isData = true
  | y :: ys, x, h, hx => by
    simp only [AV.isDataL, Bool.and_eq_true] at h
    rcases List.mem_cons.1 hx with rfl | hx
    · exact h.1
    · exact AV.isDataL_mem h.2 hx

mutual
theorem AV.men_of_isData (id : Nat) : ∀ (x : AV), x.isData = true → x.men id = false
  | .val _, _ => rfl
  | .imm _, _ => rfl
  | .agg l, h => by simp only [AV.men]; exact AV.menL_of_isDataL id l (by simpa [AV.isData] using h)
theorem AV.menL_of_isDataL (id : Nat) : ∀ (l : List AV), AV.isDataL l = true → AV.menL id l = false
  | [], _ => rfl
  | x :: xs, h => by
    simp only [AV.isDataL, Bool.and_eq_true] at h
    simp [AV.menL, AV.men_of_isData id x h.1, AV.menL_of_isDataL id xs h.2]
end

/-- Data in memory: every cell lies in a block of which q holds. -/
inductive RdD (w : World) (q : Nat → Prop) : AV → Value → Prop
  | val (v : Value) : RdD w q (.val v) v
  | imm0 (a : Option Addr) (cap : Nat) : RdD w q (.imm []) (.slice a 0 cap)
  | imm (l : List AV) (b off cap sz : Nat) (vals : Nat → Nat → Value) (hne : l ≠ []) (hz : 0 < sz) (hq : q b) (hlen : l.length ≤ maxLen) (hcap : l.length ≤ cap)
      (hsz : ∀ x ∈ l, x.cells.length = sz)
      (hc : ∀ (i : Nat) (x : AV), l[i]? = some x → ∀ (j : Nat) (y : AV), x.cells[j]? = some y → w.cell? ⟨b, off + i * sz + j, none⟩ = some (vals i j) ∧ (vals i j).oneCell' = true)
      (hr : ∀ (i : Nat) (x : AV), l[i]? = some x → ∀ (j : Nat) (y : AV), x.cells[j]? = some y → RdD w q y (vals i j)) : RdD w q (.imm l) (.slice (some ⟨b, off, none⟩) l.length cap)
  | agg (l : List AV) (vs : Array Value) (hs : vs.size = l.length) (hr : ∀ (i : Nat) (x : AV) (v : Value), l[i]? = some x → vs[i]? = some v → RdD w q x v) : RdD w q (.agg l) (.agg vs)

/-- Where an object lies: its block (none: an empty slice without memory), how many elements it has room for, the cells of an element. -/
structure Mta where
  blk : Option Nat
  cap : Nat
  sz : Nat
  more : Nat → Prop := fun _ => False

/-- the blocks of an object: its own, and (of what is foreign) more -/
def Mta.has (m : Mta) (b : Nat) : Prop := m.blk = some b ∨ m.more b
/-- an object of one block -/
abbrev mt (blk : Option Nat) (cap sz : Nat) : Mta := { blk, cap, sz }
theorem Mta.has_mk {blk : Option Nat} {cap sz b : Nat} : (mt blk cap sz).has b ↔ blk = some b := by simp [Mta.has]
theorem Mta.has_blk {m : Mta} {b : Nat} (h : m.blk = some b) : m.has b := .inl h

/-- an object that is no more: what pointed to it points anywhere -/
def Mta.gone (m : Mta) : Prop := m.blk = none ∧ m.cap = 1

/-- bs: how large memory was when the function began -/
structure Env where
  get : Nat → Option Mta
  pr : Nat → Prop
  bs : Nat

def Env.owned (e : Env) (b : Nat) : Prop := ∃ id m, e.get id = some m ∧ m.has b
def Env.q (e : Env) (b : Nat) : Prop := e.pr b ∧ ¬ e.owned b

inductive Rd (w : World) (e : Env) : AV → Value → Prop
  | dead (v : Value) : Rd w e .dead v
  | data {x : AV} {v : Value} (h : RdD w e.q x v) : Rd w e x v
  | own0 (id : Nat) (m : Mta) (hm : e.get id = some m) (hb : m.blk = none) (a : Option Addr) : Rd w e (.own id 0 0) (.slice a 0 0)
  | own (id off len : Nat) (m : Mta) (b : Nat) (hm : e.get id = some m) (hb : m.blk = some b) (hc : off + len ≤ m.cap) : Rd w e (.own id off len) (.slice (some ⟨b, off * m.sz, none⟩) len (m.cap - off))
  | ownX (id off len : Nat) (m : Mta) (hm : e.get id = some m) (hg : m.gone) (a : Option Addr) (cap : Nat) (ha : len ≠ 0 → a.isSome = true) (hc : len ≤ cap) : Rd w e (.own id off len) (.slice a len cap)
  | ptr (id i off : Nat) (m : Mta) (b : Nat) (hm : e.get id = some m) (hb : m.blk = some b) : Rd w e (.ptr id i off) (.pointer (some ⟨b, i * m.sz + off, none⟩))
  | ptrX (id i off : Nat) (m : Mta) (hm : e.get id = some m) (hg : m.gone) (a : Addr) : Rd w e (.ptr id i off) (.pointer (some a))
  | iptr (l : List AV) (b off : Nat) (vals : Nat → Value) (hne : l ≠ []) (hq : e.q b) (hc : ∀ (j : Nat) (y : AV), l[j]? = some y → w.cell? ⟨b, off + j, none⟩ = some (vals j))
      (hr : ∀ (j : Nat) (y : AV), l[j]? = some y → RdD w e.q y (vals j)) : Rd w e (.iptr l) (.pointer (some ⟨b, off, none⟩))
  | map (id : Nat) (m : Mta) (b : Nat) (hm : e.get id = some m) (hb : m.blk = some b) : Rd w e (.map id) (.map (some b))
  | yld (id : Nat) (m : Mta) (b : Nat) (hm : e.get id = some m) (hb : m.blk = some b) : Rd w e (.yld id) (.func (.yield b) #[] #[])
  | mapX (id : Nat) (m : Mta) (hm : e.get id = some m) (hg : m.gone) (b : Nat) : Rd w e (.map id) (.map (some b))
  | yldX (id : Nat) (m : Mta) (hm : e.get id = some m) (hg : m.gone) (b : Nat) : Rd w e (.yld id) (.func (.yield b) #[] #[])
  | clo (f : FuncId) (l : List AV) (vs : Array Value) (hs : vs.size = l.length) (hr : ∀ (i : Nat) (x : AV) (v : Value), l[i]? = some x → vs[i]? = some v → Rd w e x v) : Rd w e (.clo f l) (.func (.func f) #[] vs)
  | agg (l : List AV) (vs : Array Value) (hs : vs.size = l.length) (hr : ∀ (i : Nat) (x : AV) (v : Value), l[i]? = some x → vs[i]? = some v → Rd w e x v) : Rd w e (.agg l) (.agg vs)
  | tup (l : List AV) (vs : Array Value) (hs : vs.size = l.length) (hr : ∀ (i : Nat) (x : AV) (v : Value), l[i]? = some x → vs[i]? = some v → Rd w e x v) : Rd w e (.tup l) (.tuple vs)

/-- the block holds cells -/
def CellIn (w : World) (b : Nat) : Prop := ∃ o v, w.cell? ⟨b, o, none⟩ = some v
theorem CellIn.lt {w : World} {b : Nat} (h : CellIn w b) : b < w.heap.size := let ⟨_, _, h⟩ := h; World.block_lt_of_cell? _ _ h

theorem RdD.evolve' {w w' : World} {q q' : Nat → Prop} (hq : ∀ b, q b → CellIn w b → w'.heap[b]? = w.heap[b]? ∧ q' b) {x : AV} {v : Value} (h : RdD w q x v) : RdD w' q' x v := by
  induction h with
  | val v => exact .val v
  | imm0 a cap => exact .imm0 a cap
  | imm l b off cap sz vals hne hz hqb hlen hcap hsz hc hr ih =>
    obtain ⟨x0, xs, rfl⟩ := List.exists_cons_of_ne_nil hne
    obtain ⟨y0, ys, hy0⟩ : ∃ y0 ys, x0.cells = y0 :: ys := List.exists_cons_of_ne_nil (fun e => by have := hsz x0 (by simp); rw [e] at this; simp at this; omega)
    have hb : CellIn w b := ⟨_, _, (hc 0 x0 (by simp) 0 y0 (by simp [hy0])).1⟩
    obtain ⟨hh, hq'⟩ := hq b hqb hb
    refine .imm _ b off cap sz vals hne hz hq' hlen hcap hsz (fun i x hx j y hy => ?_) (fun i x hx j y hy => ih i x hx j y hy)
    obtain ⟨h1, h2⟩ := hc i x hx j y hy
    exact ⟨by rw [← h1]; exact World.cell?_of_block hh, h2⟩
  | agg l vs hs hr ih => exact .agg l vs hs ih

theorem RdD.evolve {w w' : World} {q q' : Nat → Prop} (hq : ∀ b, q b → b < w.heap.size → w'.heap[b]? = w.heap[b]? ∧ q' b) {x : AV} {v : Value} (h : RdD w q x v) : RdD w' q' x v := h.evolve' fun b h1 h2 => hq b h1 h2.lt

theorem Rd.evolve' {w w' : World} {e e' : Env} (hq : ∀ b, e.q b → CellIn w b → w'.heap[b]? = w.heap[b]? ∧ e'.q b) {x : AV} {v : Value} (h : Rd w e x v) :
    (∀ id, x.men id = true → e'.get id = e.get id) → Rd w' e' x v := by
  induction h with
  | dead v => exact fun _ => .dead v
  | data h => exact fun _ => .data (h.evolve' hq)
  | own0 id m hm hb a => exact fun hg => .own0 id m (by rw [hg id (by simp [AV.men])]; exact hm) hb a
  | own id off len m b hm hb hc => exact fun hg => .own id off len m b (by rw [hg id (by simp [AV.men])]; exact hm) hb hc
  | ownX id off len m hm hgo a cap ha hc => exact fun hg => .ownX id off len m (by rw [hg id (by simp [AV.men])]; exact hm) hgo a cap ha hc
  | ptr id i off m b hm hb => exact fun hg => .ptr id i off m b (by rw [hg id (by simp [AV.men])]; exact hm) hb
  | ptrX id i off m hm hgo a => exact fun hg => .ptrX id i off m (by rw [hg id (by simp [AV.men])]; exact hm) hgo a
  | iptr l b off vals hne hqb hc hr =>
    intro _
    obtain ⟨y0, ys, rfl⟩ := List.exists_cons_of_ne_nil hne
    have hb : CellIn w b := ⟨_, _, hc 0 y0 (by simp)⟩
    obtain ⟨hh, hq'⟩ := hq b hqb hb
    exact .iptr _ b off vals hne hq' (fun j y hy => by rw [← hc j y hy]; exact World.cell?_of_block hh) (fun j y hy => (hr j y hy).evolve' hq)
  | map id m b hm hb => exact fun hg => .map id m b (by rw [hg id (by simp [AV.men])]; exact hm) hb
  | yld id m b hm hb => exact fun hg => .yld id m b (by rw [hg id (by simp [AV.men])]; exact hm) hb
  | mapX id m hm hgo b => exact fun hg => .mapX id m (by rw [hg id (by simp [AV.men])]; exact hm) hgo b
  | yldX id m hm hgo b => exact fun hg => .yldX id m (by rw [hg id (by simp [AV.men])]; exact hm) hgo b
  | clo f l vs hs hr ih => exact fun hg => .clo f l vs hs fun i x v hx hv => ih i x v hx hv fun id hid => hg id (by simp only [AV.men]; exact AV.menL_of (List.mem_of_getElem? hx) hid)
  | agg l vs hs hr ih => exact fun hg => .agg l vs hs fun i x v hx hv => ih i x v hx hv fun id hid => hg id (by simp only [AV.men]; exact AV.menL_of (List.mem_of_getElem? hx) hid)
  | tup l vs hs hr ih => exact fun hg => .tup l vs hs fun i x v hx hv => ih i x v hx hv fun id hid => hg id (by simp only [AV.men]; exact AV.menL_of (List.mem_of_getElem? hx) hid)

theorem Rd.evolve {w w' : World} {e e' : Env} (hq : ∀ b, e.q b → b < w.heap.size → w'.heap[b]? = w.heap[b]? ∧ e'.q b) {x : AV} {v : Value} (h : Rd w e x v) :
    (∀ id, x.men id = true → e'.get id = e.get id) → Rd w' e' x v := h.evolve' fun b h1 h2 => hq b h1 h2.lt

/-- A struct's value, cell by cell. -/
theorem Rd.agg_inv {w : World} {e : Env} {l : List AV} {v : Value} (h : Rd w e (.agg l) v) : ∃ vs : Array Value, v = .agg vs ∧ vs.size = l.length ∧ ∀ (i : Nat) (x : AV) (u : Value), l[i]? = some x → vs[i]? = some u → Rd w e x u := by
  cases h with
  | data h => cases h with | agg _ vs hs hr => exact ⟨vs, rfl, hs, fun i x u hx hu => .data (hr i x u hx hu)⟩
  | agg _ vs hs hr => exact ⟨vs, rfl, hs, hr⟩

theorem Rd.tup_inv {w : World} {e : Env} {l : List AV} {v : Value} (h : Rd w e (.tup l) v) : ∃ vs : Array Value, v = .tuple vs ∧ vs.size = l.length ∧ ∀ (i : Nat) (x : AV) (u : Value), l[i]? = some x → vs[i]? = some u → Rd w e x u := by
  cases h with
  | data h => cases h
  | tup _ vs hs hr => exact ⟨vs, rfl, hs, hr⟩

theorem Rd.clo_inv {w : World} {e : Env} {f : FuncId} {l : List AV} {v : Value} (h : Rd w e (.clo f l) v) : ∃ vs : Array Value, v = .func (.func f) #[] vs ∧ vs.size = l.length ∧ ∀ (i : Nat) (x : AV) (u : Value), l[i]? = some x → vs[i]? = some u → Rd w e x u := by
  cases h with
  | data h => cases h
  | clo _ _ vs hs hr => exact ⟨vs, rfl, hs, hr⟩

theorem Rd.val_inv {w : World} {e : Env} {u v : Value} (h : Rd w e (.val u) v) : v = u := by
  cases h with | data h => cases h; rfl

theorem RdD.val_inv {w : World} {q : Nat → Prop} {u v : Value} (h : RdD w q (.val u) v) : v = u := by cases h; rfl

theorem Rd.toData {w : World} {e : Env} {x : AV} {v : Value} (h : Rd w e x v) : x.isData = true → RdD w e.q x v := by
  induction h with
  | data h => exact fun _ => h
  | agg l vs hs hr ih => exact fun hd => .agg l vs hs fun i x v hx hv => ih i x v hx hv (AV.isDataL_mem (by simpa [AV.isData] using hd) (List.mem_of_getElem? hx))
  | _ => exact fun hd => by simp [AV.isData] at hd

/-- Objects: a row of elements (d: slices' rows, all data; else a variable's box), or a map. -/
inductive Obj where
  | row (d : Bool) (ty : TypeId) (sz : Nat) (els : List AV)
  | mp (sh : Value) (ents : List (Value × AV))
  | ext (l : Nat) (J : World → (Nat → Prop) → Prop)
  | gone
  | fix (ty : TypeId) (sz cap : Nat) (els : List AV)
  deriving Inhabited

def look {α : Type} (t : Nat) : List (Nat × α) → Option α
  | [] => none
  | (k, x) :: r => if k = t then some x else look t r

theorem look_mem {α : Type} {t : Nat} : ∀ {l : List (Nat × α)} {x : α}, look t l = some x → (t, x) ∈ l
  | (k, y) :: r, x, h => by
    simp only [look] at h
    split at h
    · rename_i hk; subst hk; cases h; simp
    · exact List.mem_cons_of_mem _ (look_mem h)

def CellRd (d : Bool) (w : World) (e : Env) (y : AV) (v : Value) : Prop := if d then RdD w e.q y v else Rd w e y v

theorem CellRd.rd {d : Bool} {w : World} {e : Env} {y : AV} {v : Value} (h : CellRd d w e y v) : Rd w e y v := by
  cases d with
  | true => exact .data (by simpa [CellRd] using h)
  | false => simpa [CellRd] using h

structure RowOk (w : World) (e : Env) (m : Mta) (d : Bool) (ty : TypeId) (sz : Nat) (els : List AV) : Prop where
  hsz : m.sz = sz
  len : els.length ≤ m.cap
  cap : m.cap ≤ maxLen
  cells : ∀ x ∈ els, x.cells.length = sz
  only : ∀ b, ¬ m.more b
  blk : match m.blk with
    | none => m.cap = 0
    | some b => ∃ cur : Array Value, w.heap[b]? = some (.cells cur ty (0, 0)) ∧ cur.size = m.cap * sz ∧
        ∀ (i : Nat) (x : AV), els[i]? = some x → ∀ (j : Nat) (y : AV), x.cells[j]? = some y → ∃ v, cur[i * sz + j]? = some v ∧ v.oneCell' = true ∧ CellRd d w e y v

/-- a row of data is still well where its block stays -/
theorem RowOk.keepT {w w' : World} {e e' : Env} {m : Mta} {ty : TypeId} {sz : Nat} {els : List AV} (h : RowOk w e m true ty sz els) (hb : ∀ b, m.has b → w'.heap[b]? = w.heap[b]?)
    (hq : ∀ y v, RdD w e.q y v → RdD w' e'.q y v) : RowOk w' e' m true ty sz els := by
  refine ⟨h.hsz, h.len, h.cap, h.cells, h.only, ?_⟩
  have hk := h.blk
  cases hmb : m.blk with
  | none => simpa [hmb] using hk
  | some b =>
    simp only [hmb] at hk ⊢
    obtain ⟨cur, h1, h2, h3⟩ := hk
    refine ⟨cur, by rw [hb b (.inl hmb)]; exact h1, h2, fun i x hx j y hy => ?_⟩
    obtain ⟨v, g1, g2, g3⟩ := h3 i x hx j y hy
    refine ⟨v, g1, g2, ?_⟩
    simp only [CellRd, if_true] at g3 ⊢; exact hq _ _ g3
theorem RowOk.ngone {w : World} {e : Env} {m : Mta} {d : Bool} {ty : TypeId} {sz : Nat} {els : List AV} (h : RowOk w e m d ty sz els) : ¬ m.gone := fun hg => by
  have hk := h.blk
  rw [hg.1] at hk
  have := hg.2
  simp only at hk; omega
/-- a map's key, of the shape of sh: a whole number or a string that fits, or a struct of whole numbers -/
def wfI64 : Value → Bool
  | .int .i64 a => (Lit.int .i64 a).wf
  | _ => false
def fitsKey : Value → Value → Bool
  | .int q _, .int q' a => q' == q && (Lit.int q a).wf
  | .string _, .string s => decide (s.size ≤ maxLen)
  | .agg zs, .agg xs => zs.size == xs.size && xs.toList.all wfI64
  | _, _ => false
/-- A map object: its entries, in order; keys are plain values. -/
structure MapOk (w : World) (e : Env) (m : Mta) (sh : Value) (ents : List (Value × AV)) : Prop where
  only : ∀ b, ¬ m.more b
  good : (∀ x ∈ ents, fitsKey sh x.1 = true) ∧ (ents.map (·.1)).Nodup
  blk : ∃ b es clock, m.blk = some b ∧ w.heap[b]? = some (.map es clock) ∧ es.size = ents.length ∧ es.size ≤ maxLen ∧
    ∀ (i : Nat) (k : Value) (x : AV), ents[i]? = some (k, x) → ∃ en, es[i]? = some en ∧ en.key = k ∧ RdD w e.q x en.val

theorem MapOk.ngone {w : World} {e : Env} {m : Mta} {sh : Value} {ents : List (Value × AV)} (h : MapOk w e m sh ents) : ¬ m.gone := fun hg => by
  obtain ⟨b, _, _, h1, _⟩ := h.blk
  rw [hg.1] at h1; cases h1
/-- What is foreign: a statement of the world that speaks of the object's blocks alone. -/
structure ExtOk (w : World) (m : Mta) (l : Nat) (J : World → (Nat → Prop) → Prop) : Prop where
  blk : m.blk = some l
  lt : ∀ b, m.has b → b < w.heap.size
  holds : J w m.has
  stable : ∀ (w w' : World) (S : Nat → Prop), J w S → (∀ b, S b → b < w.heap.size → w'.heap[b]? = w.heap[b]?) → w'.os = w.os → w'.tape = w.tape → w'.output = w.output → w.heap.size ≤ w'.heap.size → J w' S

def ObjOk (w : World) (e : Env) (m : Mta) : Obj → Prop
  | .row d ty sz els => RowOk w e m d ty sz els
  | .mp sh ents => MapOk w e m sh ents
  | .ext l J => ExtOk w m l J
  | .gone => m.gone ∧ ∀ b, ¬ m.more b
  | .fix ty sz cap els => RowOk w e m true ty sz els ∧ m.cap = cap

structure Sim (w : World) (e : Env) (objs : List (Nat × Obj)) : Prop where
  dom : ∀ id, (e.get id).isSome = (look id objs).isSome
  inj : ∀ i j m m' b, e.get i = some m → e.get j = some m' → m.has b → m'.has b → i = j
  obj : ∀ id o m, look id objs = some o → e.get id = some m → ObjOk w e m o
  prok : ∀ b, e.owned b → e.pr b
  new : ∀ b, w.heap.size ≤ b → e.pr b

/-- ids that a function may renew and let go: not those of the objects that were handed to it -/
def unp (id : Nat) : Bool := decide (id < 10000) || (decide (15000 ≤ id) && !(id == 19999))
theorem unp_ne {id j : Nat} (h : unp id = true) (h1 : unp j = false) : j ≠ id := fun hj => by rw [hj, h] at h1; cases h1
theorem unp_cases {j : Nat} (h : unp j = false) : (10000 ≤ j ∧ j < 15000) ∨ j = 19999 := by
  simp only [unp, Bool.or_eq_false_iff, decide_eq_false_iff_not, Bool.and_eq_false_iff, Bool.not_eq_false', beq_iff_eq] at h; omega

/-- the same place: only what is foreign may have grown -/
def Mta.same (m m' : Mta) : Prop := m'.blk = m.blk ∧ m'.cap = m.cap ∧ m'.sz = m.sz
theorem Mta.same_refl (m : Mta) : m.same m := ⟨rfl, rfl, rfl⟩
theorem Mta.same_trans {a b c : Mta} (h : a.same b) (k : b.same c) : a.same c := ⟨k.1.trans h.1, k.2.1.trans h.2.1, k.2.2.trans h.2.2⟩

/-- What was handed to a function stays where it lies. -/
structure Pinned (e e' : Env) : Prop where
  pin : ∀ id, 10000 ≤ id → id < 15000 → e'.get id = e.get id
  ext : ∀ m, e.get 19999 = some m → ∃ m', e'.get 19999 = some m' ∧ m.same m'
theorem Pinned.refl (e : Env) : Pinned e e := ⟨fun _ _ _ => rfl, fun m h => ⟨m, h, m.same_refl⟩⟩
theorem Pinned.of {e e' : Env} (h : ∀ j, unp j = false → e'.get j = e.get j) : Pinned e e' :=
  ⟨fun id h1 h2 => h id (by simp [unp]; omega), fun m hm => ⟨m, by rw [h 19999 (by decide)]; exact hm, m.same_refl⟩⟩
theorem Pinned.trans {a b c : Env} (h : Pinned a b) (k : Pinned b c) : Pinned a c :=
  ⟨fun id h1 h2 => (k.pin id h1 h2).trans (h.pin id h1 h2), fun m hm => let ⟨m1, h1, h2⟩ := h.ext m hm; let ⟨m2, h3, h4⟩ := k.ext m1 h1; ⟨m2, h3, Mta.same_trans h2 h4⟩⟩

/-- How world and environment may go on: what is not owned stays. -/
structure Fr (w : World) (e : Env) (w' : World) (e' : Env) : Prop where
  os : w'.os = w.os
  tape : w'.tape = w.tape
  output : w'.output = w.output
  size : w.heap.size ≤ w'.heap.size
  blk : ∀ b, b < w.heap.size → ¬ e.owned b → w'.heap[b]? = w.heap[b]?
  own : ∀ b, e'.owned b → b < w.heap.size → e.owned b
  prb : (e'.pr, e'.bs) = (e.pr, e.bs)
  pins : Pinned e e'

theorem Fr.pr {w w' : World} {e e' : Env} (h : Fr w e w' e') : e'.pr = e.pr := congrArg Prod.fst h.prb
theorem Fr.bs {w w' : World} {e e' : Env} (h : Fr w e w' e') : e'.bs = e.bs := congrArg Prod.snd h.prb

theorem Fr.pin {w w' : World} {e e' : Env} (h : Fr w e w' e') : ∀ id, 10000 ≤ id → id < 15000 → e'.get id = e.get id := h.pins.pin

theorem Fr.refl (w : World) (e : Env) : Fr w e w e := ⟨rfl, rfl, rfl, Nat.le_refl _, fun _ _ _ => rfl, fun _ h _ => h, rfl, .refl e⟩

theorem Fr.trans {w w₁ w₂ : World} {e e₁ e₂ : Env} (h : Fr w e w₁ e₁) (k : Fr w₁ e₁ w₂ e₂) : Fr w e w₂ e₂ :=
  ⟨k.os.trans h.os, k.tape.trans h.tape, k.output.trans h.output, Nat.le_trans h.size k.size,
    fun b hb hn => (k.blk b (Nat.lt_of_lt_of_le hb h.size) (fun ho => hn (h.own b ho hb))).trans (h.blk b hb hn),
    fun b ho hb => h.own b (k.own b ho (Nat.lt_of_lt_of_le hb h.size)) hb, k.prb.trans h.prb, h.pins.trans k.pins⟩

theorem Fr.q {w w' : World} {e e' : Env} (h : Fr w e w' e') : ∀ b, e.q b → b < w.heap.size → w'.heap[b]? = w.heap[b]? ∧ e'.q b :=
  fun b hq hb => ⟨h.blk b hb hq.2, by rw [Env.q, h.pr]; exact ⟨hq.1, fun ho => hq.2 (h.own b ho hb)⟩⟩

theorem RdD.fr {w w' : World} {e e' : Env} (hf : Fr w e w' e') {x : AV} {v : Value} (h : RdD w e.q x v) : RdD w' e'.q x v := h.evolve hf.q
theorem Rd.fr {w w' : World} {e e' : Env} (hf : Fr w e w' e') {x : AV} {v : Value} (h : Rd w e x v) (hg : ∀ id, x.men id = true → e'.get id = e.get id) : Rd w' e' x v := h.evolve hf.q hg

/-- An object whose block was not touched, and which names no object that has turned, is still well. -/
def Obj.men (id : Nat) : Obj → Bool
  | .row true _ _ _ => false
  | .row false _ _ els => AV.menL id els
  | .mp _ _ => false
  | .ext _ _ => false
  | .gone => false
  | .fix _ _ _ _ => false

theorem menL_cells {id : Nat} {x : AV} (h : x.men id = false) : ∀ y ∈ x.cells, y.men id = false := by
  intro y hy
  cases hm : y.men id with
  | false => rfl
  | true =>
    cases x <;> simp only [AV.cells, List.mem_singleton] at hy <;> first
      | (subst hy; rw [hm] at h; exact h)
      | (simp only [AV.men] at h; rw [AV.menL_of hy hm] at h; exact h)

theorem ObjOk.fr {w w' : World} {e e' : Env} (hf : Fr w e w' e') {m : Mta} {o : Obj} (h : ObjOk w e m o) (hb : ∀ b, m.has b → w'.heap[b]? = w.heap[b]?)
    (hg : ∀ id, o.men id = true → e'.get id = e.get id) : ObjOk w' e' m o := by
  cases o with
  | row d ty sz els =>
    refine ⟨h.hsz, h.len, h.cap, h.cells, h.only, ?_⟩
    have hk := h.blk
    cases hmb : m.blk with
    | none => simpa [hmb] using hk
    | some b =>
      simp only [hmb] at hk ⊢
      obtain ⟨cur, h1, h2, h3⟩ := hk
      refine ⟨cur, by rw [hb b (.inl hmb)]; exact h1, h2, fun i x hx j y hy => ?_⟩
      obtain ⟨v, g1, g2, g3⟩ := h3 i x hx j y hy
      refine ⟨v, g1, g2, ?_⟩
      cases d with
      | true => simp only [CellRd, if_true] at g3 ⊢; exact g3.fr hf
      | false =>
        simp only [CellRd, Bool.false_eq_true, if_false] at g3 ⊢
        refine g3.fr hf fun id hid => hg id ?_
        simp only [Obj.men]
        cases hx' : x.men id with
        | true => exact AV.menL_of (List.mem_of_getElem? hx) hx'
        | false => rw [menL_cells hx' y (List.mem_of_getElem? hy)] at hid; exact absurd hid (by simp)
  | mp sh ents =>
    obtain ⟨b, es, clock, h1, h2, h3, h3', h4⟩ := h.blk
    refine ⟨h.only, h.good, b, es, clock, h1, by rw [hb b (.inl h1)]; exact h2, h3, h3', fun i k x hx => ?_⟩
    obtain ⟨en, g1, g2, g3⟩ := h4 i k x hx
    exact ⟨en, g1, g2, g3.fr hf⟩
  | ext l J =>
    exact ⟨h.blk, fun b hb' => Nat.lt_of_lt_of_le (h.lt b hb') hf.size, h.stable _ _ _ h.holds (fun b hb' _ => hb b hb') hf.os hf.tape hf.output hf.size, h.stable⟩
  | gone => exact h
  | fix ty sz cap els => exact ⟨h.1.keepT hb fun _ _ g => g.fr hf, h.2⟩
/-- where only blocks turn that hold no cells and are not the object's -/
theorem ObjOk.quiet {w w' : World} {e : Env} {m : Mta} {o : Obj} (h : ObjOk w e m o) (hq : ∀ b, CellIn w b → w'.heap[b]? = w.heap[b]?) (hb : ∀ b, m.has b → w'.heap[b]? = w.heap[b]?)
    (hsz : w.heap.size ≤ w'.heap.size) (hos : w'.os = w.os ∧ w'.tape = w.tape ∧ w'.output = w.output) : ObjOk w' e m o := by
  have hqq : ∀ b, e.q b → CellIn w b → w'.heap[b]? = w.heap[b]? ∧ e.q b := fun b h1 h2 => ⟨hq b h2, h1⟩
  cases o with
  | row d ty sz els =>
    refine ⟨h.hsz, h.len, h.cap, h.cells, h.only, ?_⟩
    have hk := h.blk
    cases hmb : m.blk with
    | none => simpa [hmb] using hk
    | some b =>
      simp only [hmb] at hk ⊢
      obtain ⟨cur, h1, h2, h3⟩ := hk
      refine ⟨cur, by rw [hb b (.inl hmb)]; exact h1, h2, fun i x hx j y hy => ?_⟩
      obtain ⟨v, g1, g2, g3⟩ := h3 i x hx j y hy
      refine ⟨v, g1, g2, ?_⟩
      cases d with
      | true => simp only [CellRd, if_true] at g3 ⊢; exact g3.evolve' hqq
      | false => simp only [CellRd, Bool.false_eq_true, if_false] at g3 ⊢; exact g3.evolve' hqq (fun _ _ => rfl)
  | mp sh ents =>
    obtain ⟨b, es, clock, h1, h2, h3, h3', h4⟩ := h.blk
    refine ⟨h.only, h.good, b, es, clock, h1, by rw [hb b (.inl h1)]; exact h2, h3, h3', fun i k x hx => ?_⟩
    obtain ⟨en, g1, g2, g3⟩ := h4 i k x hx
    exact ⟨en, g1, g2, g3.evolve' hqq⟩
  | ext l J => exact ⟨h.blk, fun b hb' => Nat.lt_of_lt_of_le (h.lt b hb') hsz, h.stable _ _ _ h.holds (fun b hb' _ => hb b hb') hos.1 hos.2.1 hos.2.2 hsz, h.stable⟩
  | gone => exact h
  | fix ty sz cap els => exact ⟨h.1.keepT hb fun _ _ g => g.evolve' hqq, h.2⟩
#print axioms ObjOk.fr
end Go.Sim
