/- States of abstract values, and how they go on when an object is let go, made anew, or written. -/
import Derived.Test.YtggbbldoopfejaaSa
namespace Go.Sim
open Go.RowKit

structure St where
  nt : Nat
  tmps : List (Nat × AV)
  objs : List (Nat × Obj)

def St.at (st : St) (t : Nat) : AV := (look t st.tmps).getD .dead
def St.ev (st : St) : Operand → AV
  | .tmp t => st.at t
  | .const v => .val v
  | .global _ => .dead
  | .func f => .clo f []

/-- The deferred calls are marks of finished ranges over functions, and nobody defers there. -/
def Marks (w : World) (e : Env) (ds : List Deferred) : Prop := (ds.Nodup ∧ e.bs ≤ w.heap.size) ∧ ∀ d ∈ ds, ∃ D, d = { target := .collected D, args := #[] } ∧ w.heap[D]? = some (.deferred (some [])) ∧ ¬ e.owned D ∧ e.bs ≤ D
theorem Marks.nil {w : World} {e : Env} (h : e.bs ≤ w.heap.size) : Marks w e [] := ⟨⟨List.nodup_nil, h⟩, fun d hd => by simp at hd⟩
theorem Marks.fr {w w' : World} {e e' : Env} (hf : Fr w e w' e') {ds : List Deferred} (h : Marks w e ds) : Marks w' e' ds := ⟨⟨h.1.1, by rw [hf.bs]; exact Nat.le_trans h.1.2 hf.size⟩, fun d hd => by
  obtain ⟨D, h1, h2, h3, h4⟩ := h.2 d hd
  have hlt : D < w.heap.size := (Array.getElem?_eq_some_iff.1 h2).1
  exact ⟨D, h1, by rw [hf.blk D hlt h3]; exact h2, fun ho => h3 (hf.own D ho hlt), by rw [hf.bs]; exact h4⟩⟩

structure Conc (st : St) (a : Act) (w : World) (e : Env) : Prop where
  sim : Sim w e st.objs
  defers : Marks w e a.defers
  size : a.tmps.size = st.nt
  tmp : ∀ t x, look t st.tmps = some x → ∃ v, a.tmps[t]? = some v ∧ Rd w e x v

theorem Conc.ev {st : St} {a : Act} {w : World} {e : Env} (h : Conc st a w e) (o : Operand) : Rd w e (st.ev o) (a.eval o) := by
  cases o with
  | tmp t =>
    simp only [St.ev, St.at, Act.eval]
    cases hl : look t st.tmps with
    | none => exact .dead _
    | some x =>
      obtain ⟨v, hv, hr⟩ := h.tmp t x hl
      simpa [Array.getD_eq_getD_getElem?, hv] using hr
  | const v => exact .data (.val v)
  | global g => exact .dead _
  | func f => exact .clo f [] #[] rfl (fun i x v hx => by simp at hx)

/-- Lists with keys. -/
def upd {α : Type} (t : Nat) (x : α) : List (Nat × α) → List (Nat × α)
  | [] => [(t, x)]
  | (k, y) :: r => if k = t then (k, x) :: r else (k, y) :: upd t x r
def del {α : Type} (t : Nat) : List (Nat × α) → List (Nat × α)
  | [] => []
  | (k, y) :: r => if k = t then del t r else (k, y) :: del t r
def mapV {α : Type} (f : α → α) : List (Nat × α) → List (Nat × α)
  | [] => []
  | (k, y) :: r => (k, f y) :: mapV f r

theorem look_upd {α : Type} (t : Nat) (x : α) (s : Nat) : ∀ l : List (Nat × α), look s (upd t x l) = if t = s then some x else look s l
  | [] => by simp [upd, look]
  | (k, y) :: r => by
    simp only [upd]
    by_cases hk : k = t
    · subst hk; simp only [if_true, look]; split <;> rfl
    · rw [if_neg hk]
      simp only [look, look_upd t x s r]
      by_cases h1 : k = s
      · subst h1; rw [if_pos rfl, if_pos rfl, if_neg (Ne.symm hk)]
      · rw [if_neg h1, if_neg h1]
theorem look_del {α : Type} (t s : Nat) : ∀ l : List (Nat × α), look s (del t l) = if t = s then none else look s l
  | [] => by simp [del, look]
  | (k, y) :: r => by
    simp only [del]
    by_cases hk : k = t
    · subst hk; rw [if_pos rfl, look_del k s r]; simp only [look]; split <;> rfl
    · rw [if_neg hk]
      simp only [look, look_del t s r]
      by_cases h1 : k = s
      · subst h1; rw [if_pos rfl, if_pos rfl, if_neg (Ne.symm hk)]
      · rw [if_neg h1, if_neg h1]
theorem look_mapV {α : Type} (f : α → α) (s : Nat) : ∀ l : List (Nat × α), look s (mapV f l) = (look s l).map f
  | [] => rfl
  | (k, y) :: r => by simp only [mapV, look, look_mapV f s r]; split <;> rfl

def St.put (st : St) (dst : Option Tmp) (x : AV) : St :=
  match dst with
  | some d => { st with tmps := upd d x st.tmps }
  | none => st

theorem Conc.put {st : St} {a : Act} {w : World} {e : Env} (h : Conc st a w e) {dst : Option Tmp} {x : AV} {v : Value} (hv : Rd w e x v) (hd : ∀ d, dst = some d → d < st.nt) :
    Conc (st.put dst x) (a.put dst v) w e := by
  cases dst with
  | none => exact h
  | some d =>
    refine ⟨h.sim, by simpa [Act.put] using h.defers, by simp [Act.put, h.size, St.put], fun t y hy => ?_⟩
    simp only [St.put, look_upd] at hy
    simp only [Act.put, Array.getElem?_setIfInBounds]
    by_cases hdt : d = t
    · subst hdt
      rw [if_pos rfl] at hy; cases hy
      refine ⟨v, ?_, hv⟩
      rw [if_pos rfl, if_pos (by rw [h.size]; exact hd d rfl)]
    · rw [if_neg hdt] at hy ⊢
      exact h.tmp t y hy

/-! ### mapping the values of a state -/
def AV.mapTop (f : AV → AV) : AV → AV
  | .agg l => .agg (l.map f)
  | .tup l => .tup (l.map f)
  | x => f x
def AV.mapCells (f : AV → AV) : AV → AV
  | .agg l => .agg (l.map f)
  | x => f x
def Obj.map (f : AV → AV) : Obj → Obj
  | .row false ty sz els => .row false ty sz (els.map (AV.mapCells f))
  | o => o

def AV.kill (id : Nat) (x : AV) : AV := if x.men id then .dead else x
def AV.frz (id : Nat) (els : List AV) : AV → AV
  | .own i off len => if i = id then (if off + len ≤ els.length then .imm ((els.drop off).take len) else .dead) else .own i off len
  | x => if x.men id then .dead else x

theorem AV.kill_cells (id : Nat) (x : AV) (h : x.cells = [x]) : (x.kill id).cells = [x.kill id] := by
  unfold AV.kill; split
  · rfl
  · exact h
theorem AV.frz_cells (id : Nat) (els : List AV) (x : AV) (h : x.cells = [x]) : (x.frz id els).cells = [x.frz id els] := by
  cases x <;> simp only [AV.frz] <;> (repeat' split) <;> first | rfl | exact h

theorem AV.mapCells_cells (f : AV → AV) (hf : ∀ x : AV, x.cells = [x] → (f x).cells = [f x]) (x : AV) : (x.mapCells f).cells = x.cells.map f := by
  cases x <;> simp only [AV.mapCells, AV.cells, List.map_cons, List.map_nil] <;> exact hf _ rfl

/-- f turns readings in e into readings in e'. -/
def Turns (w : World) (e : Env) (w' : World) (e' : Env) (f : AV → AV) : Prop := ∀ x v, Rd w e x v → Rd w' e' (f x) v

theorem Turns.top {w w' : World} {e e' : Env} {f : AV → AV} (hf : Turns w e w' e' f) : Turns w e w' e' (AV.mapTop f) := by
  intro x v h
  cases x with
  | agg l =>
    obtain ⟨vs, rfl, hs, hr⟩ := h.agg_inv
    refine .agg _ vs (by simpa using hs) fun i x u hx hu => ?_
    rw [List.getElem?_map] at hx
    obtain ⟨y, hy, rfl⟩ := Option.map_eq_some_iff.1 hx
    exact hf _ _ (hr i y u hy hu)
  | tup l =>
    obtain ⟨vs, rfl, hs, hr⟩ := h.tup_inv
    refine .tup _ vs (by simpa using hs) fun i x u hx hu => ?_
    rw [List.getElem?_map] at hx
    obtain ⟨y, hy, rfl⟩ := Option.map_eq_some_iff.1 hx
    exact hf _ _ (hr i y u hy hu)
  | _ => exact hf _ _ h

theorem Turns.obj {w w' : World} {e e' : Env} {f : AV → AV} (hf : Turns w e w' e' f) (hc : ∀ x : AV, x.cells = [x] → (f x).cells = [f x])
    (hq : ∀ b, e.q b → b < w.heap.size → w'.heap[b]? = w.heap[b]? ∧ e'.q b) {m : Mta} {o : Obj} (h : ObjOk w e m o) (hsz : w.heap.size ≤ w'.heap.size) (hos : w'.os = w.os ∧ w'.tape = w.tape ∧ w'.output = w.output) (hb : ∀ b, m.has b → w'.heap[b]? = w.heap[b]?) : ObjOk w' e' m (o.map f) := by
  cases o with
  | ext l J =>
    exact ⟨h.blk, fun b hb' => Nat.lt_of_lt_of_le (h.lt b hb') hsz, h.stable _ _ _ h.holds (fun b hb' _ => hb b hb') hos.1 hos.2.1 hos.2.2 hsz, h.stable⟩
  | gone => exact h
  | fix ty sz cap els => exact ⟨h.1.keepT hb fun _ _ g => g.evolve hq, h.2⟩
  | mp sh ents =>
    obtain ⟨b, es, clock, h1, h2, h3, h3', h4⟩ := h.blk
    refine ⟨h.only, h.good, b, es, clock, h1, by rw [hb b (.inl h1)]; exact h2, h3, h3', fun i k x hx => ?_⟩
    obtain ⟨en, g1, g2, g3⟩ := h4 i k x hx
    exact ⟨en, g1, g2, g3.evolve hq⟩
  | row d ty sz els =>
    cases d with
    | true =>
      refine ⟨h.hsz, h.len, h.cap, h.cells, h.only, ?_⟩
      have hk := h.blk
      cases hmb : m.blk with
      | none => simpa [hmb] using hk
      | some b =>
        simp only [hmb] at hk ⊢
        obtain ⟨cur, h1, h2, h3⟩ := hk
        refine ⟨cur, by rw [hb b (.inl hmb)]; exact h1, h2, fun i x hx j y hy => ?_⟩
        obtain ⟨v, g1, g2, g3⟩ := h3 i x hx j y hy
        refine ⟨v, g1, g2, ?_⟩
        simp only [CellRd, if_true] at g3 ⊢; exact g3.evolve hq
    | false =>
      refine ⟨h.hsz, by simpa using h.len, h.cap, fun x hx => ?_, ?_, ?_⟩
      · obtain ⟨y, hy, rfl⟩ := List.mem_map.1 hx
        rw [AV.mapCells_cells f hc, List.length_map]; exact h.cells y hy
      · exact h.only
      · have hk := h.blk
        cases hmb : m.blk with
        | none => simpa [hmb] using hk
        | some b =>
          simp only [hmb] at hk ⊢
          obtain ⟨cur, h1, h2, h3⟩ := hk
          refine ⟨cur, by rw [hb b (.inl hmb)]; exact h1, h2, fun i x hx j y hy => ?_⟩
          rw [List.getElem?_map] at hx
          obtain ⟨x0, hx0, rfl⟩ := Option.map_eq_some_iff.1 hx
          rw [AV.mapCells_cells f hc, List.getElem?_map] at hy
          obtain ⟨y0, hy0, rfl⟩ := Option.map_eq_some_iff.1 hy
          obtain ⟨v, g1, g2, g3⟩ := h3 i x0 hx0 j y0 hy0
          refine ⟨v, g1, g2, ?_⟩
          simp only [CellRd, Bool.false_eq_true, if_false] at g3 ⊢
          exact hf _ _ g3

def Env.drop (e : Env) (id : Nat) : Env := { e with get := fun j => if j = id then none else e.get j }
def Env.set (e : Env) (id : Nat) (m : Mta) : Env := { e with get := fun j => if j = id then some m else e.get j }

theorem Env.owned_drop {e : Env} {id b : Nat} (h : (e.drop id).owned b) : e.owned b := by
  obtain ⟨j, m, hj, hm⟩ := h
  simp only [Env.drop] at hj
  split at hj
  · cases hj
  · exact ⟨j, m, hj, hm⟩

theorem Fr.drop (w : World) (e : Env) (id : Nat) (hu : unp id = true) : Fr w e w (e.drop id) := ⟨rfl, rfl, rfl, Nat.le_refl _, fun _ _ _ => rfl, fun _ h _ => Env.owned_drop h, rfl, Pinned.of fun j hj => by simp [Env.drop, unp_ne hu hj]⟩

theorem turns_kill {w w' : World} {e e' : Env} (id : Nat) (hf : Fr w e w' e') (hg : ∀ j, j ≠ id → e'.get j = e.get j) : Turns w e w' e' (AV.kill id) := by
  intro x v h
  unfold AV.kill
  cases hm : x.men id with
  | true => exact .dead v
  | false =>
    refine h.fr hf fun j hj => hg j fun e => ?_
    subst e; rw [hm] at hj; cases hj

/-- A state whose values are mapped, and whose object id is let go. -/
def St.turn (st : St) (id : Nat) (f : AV → AV) : St := { st with tmps := mapV (AV.mapTop f) st.tmps, objs := del id (mapV (Obj.map f) st.objs) }

theorem Conc.shrink {st : St} {a : Act} {w : World} {e : Env} (h : Conc st a w e) (id : Nat) (f : AV → AV) (hu : unp id = true) (hf : Turns w e w (e.drop id) f) (hc : ∀ x : AV, x.cells = [x] → (f x).cells = [f x]) :
    Conc (st.turn id f) a w (e.drop id) := by
  have hfr := Fr.drop w e id hu
  refine ⟨⟨fun j => ?_, fun i j m m' b hi hj hb hb' => ?_, fun j o m ho hm => ?_, fun b hb => h.sim.prok b (Env.owned_drop hb), h.sim.new⟩, h.defers.fr hfr, h.size, fun t x hx => ?_⟩
  · simp only [Env.drop, St.turn, look_del, look_mapV]
    by_cases hj : j = id
    · subst hj; simp
    · rw [if_neg hj, if_neg (Ne.symm hj)]; simpa using h.sim.dom j
  · simp only [Env.drop] at hi hj
    split at hi
    · cases hi
    split at hj
    · cases hj
    exact h.sim.inj i j m m' b hi hj hb hb'
  · simp only [St.turn, look_del, look_mapV] at ho
    simp only [Env.drop] at hm
    split at ho
    · cases ho
    split at hm
    · cases hm
    obtain ⟨o0, ho0, rfl⟩ := Option.map_eq_some_iff.1 ho
    exact hf.obj hc hfr.q (h.sim.obj j o0 m ho0 hm) hfr.size ⟨hfr.os, hfr.tape, hfr.output⟩ (fun _ _ => rfl)
  · simp only [St.turn, look_mapV] at hx
    obtain ⟨x0, hx0, rfl⟩ := Option.map_eq_some_iff.1 hx
    obtain ⟨v, hv, hr⟩ := h.tmp t x0 hx0
    exact ⟨v, hv, hf.top _ _ hr⟩

/-- An object anew under id (what named the elder one is dead): a new block, or the elder one's own. -/
def St.renew (st : St) (id : Nat) (o : Obj) : St :=
  { st with tmps := mapV (AV.mapTop (AV.kill id)) st.tmps, objs := (id, o) :: del id (mapV (Obj.map (AV.kill id)) st.objs) }

theorem Conc.renew {st : St} {a : Act} {w w' : World} {e : Env} (h : Conc st a w e) (id : Nat) (o : Obj) (m : Mta) (hfr : Fr w e w' (e.set id m))
    (hblk : ∀ b, m.has b → ∀ j m', j ≠ id → e.get j = some m' → ¬ m'.has b)
    (hoth : ∀ j m' b, j ≠ id → e.get j = some m' → m'.has b → w'.heap[b]? = w.heap[b]?)
    (hobj : ObjOk w' (e.set id m) m o) (hpr : ∀ b, m.has b → e.pr b) : Conc (st.renew id o) a w' (e.set id m) := by
  have hf : Turns w e w' (e.set id m) (AV.kill id) := turns_kill id hfr fun j hj => by simp [Env.set, hj]
  refine ⟨⟨fun j => ?_, fun i j mi mj b hi hj hb hb' => ?_, fun j o' m' ho hm => ?_, fun b hb => ?_, fun b hb => h.sim.new b (Nat.le_trans hfr.size hb)⟩, h.defers.fr hfr, h.size, fun t x hx => ?_⟩
  · simp only [Env.set, St.renew, look]
    by_cases hj : j = id
    · subst hj; simp
    · rw [if_neg hj, if_neg (Ne.symm hj), look_del, if_neg (Ne.symm hj), look_mapV]; simpa using h.sim.dom j
  · simp only [Env.set] at hi hj
    by_cases h1 : i = id <;> by_cases h2 : j = id
    · rw [h1, h2]
    · rw [if_pos h1] at hi; rw [if_neg h2] at hj; cases hi; exact absurd hb' (hblk b hb j mj h2 hj)
    · rw [if_neg h1] at hi; rw [if_pos h2] at hj; cases hj; exact absurd hb (hblk b hb' i mi h1 hi)
    · rw [if_neg h1] at hi; rw [if_neg h2] at hj; exact h.sim.inj i j mi mj b hi hj hb hb'
  · simp only [St.renew, look] at ho
    simp only [Env.set] at hm
    by_cases hj : j = id
    · subst hj
      rw [if_pos rfl] at ho hm
      cases ho; cases hm; exact hobj
    · rw [if_neg (Ne.symm hj), look_del, if_neg (Ne.symm hj), look_mapV] at ho
      rw [if_neg hj] at hm
      obtain ⟨o0, ho0, rfl⟩ := Option.map_eq_some_iff.1 ho
      exact hf.obj (AV.kill_cells id) hfr.q (h.sim.obj j o0 m' ho0 hm) hfr.size ⟨hfr.os, hfr.tape, hfr.output⟩ (fun b hb => hoth j m' b hj hm hb)
  · obtain ⟨j, mj, hj, hb'⟩ := hb
    simp only [Env.set] at hj
    split at hj
    · cases hj; exact hpr b hb'
    · exact h.sim.prok b ⟨j, mj, hj, hb'⟩
  · simp only [St.renew, look_mapV] at hx
    obtain ⟨x0, hx0, rfl⟩ := Option.map_eq_some_iff.1 hx
    obtain ⟨v, hv, hr⟩ := h.tmp t x0 hx0
    exact ⟨v, hv, hf.top _ _ hr⟩

/-- An object written in place: its views stay. -/
theorem Conc.write {st : St} {a : Act} {w w' : World} {e : Env} (h : Conc st a w e) (id : Nat) (o : Obj) (m : Mta) (hid : e.get id = some m) (hfr : Fr w e w' e)
    (hoth : ∀ j m' b, j ≠ id → e.get j = some m' → m'.has b → w'.heap[b]? = w.heap[b]?) (hobj : ObjOk w' e m o) : Conc { st with objs := upd id o st.objs } a w' e := by
  refine ⟨⟨fun j => ?_, h.sim.inj, fun j o' m' ho hm => ?_, h.sim.prok, fun b hb => h.sim.new b (Nat.le_trans hfr.size hb)⟩, h.defers.fr hfr, h.size, fun t x hx => ?_⟩
  · show _ = (look j (upd id o st.objs)).isSome
    rw [look_upd]
    by_cases hj : id = j
    · subst hj; simp [hid]
    · rw [if_neg hj]; exact h.sim.dom j
  · replace ho : look j (upd id o st.objs) = some o' := ho
    rw [look_upd] at ho
    by_cases hj : id = j
    · subst hj
      rw [if_pos rfl] at ho
      cases ho
      rw [hid] at hm; cases hm; exact hobj
    · rw [if_neg hj] at ho
      exact (h.sim.obj j o' m' ho hm).fr hfr (fun b hb => hoth j m' b (Ne.symm hj) hm hb) (fun _ _ => rfl)
  · obtain ⟨v, hv, hr⟩ := h.tmp t x hx
    exact ⟨v, hv, hr.fr hfr fun _ _ => rfl⟩

/-- Fewer values are known. -/
theorem Conc.less {st : St} {a : Act} {w : World} {e : Env} (h : Conc st a w e) (tm : List (Nat × AV)) (ht : ∀ t x, look t tm = some x → look t st.tmps = some x) : Conc { st with tmps := tm } a w e :=
  ⟨h.sim, h.defers, h.size, fun t x hx => h.tmp t x (ht t x hx)⟩
#print axioms Conc.write
end Go.Sim
