/- The rule of a call that hands on data; a function's beginning and end. -/
import Derived.Test.YtggbbldoopfejaaSj
namespace Go.Sim
open Go.RowKit
section
variable {P : Program} {Γ : TypeId → Option TI}

/-- the function value that an operand is, and what it captured -/
def St.callee (st : St) (f : Operand) : Option (FuncId × List AV) :=
  match st.ev f with
  | .clo g caps => some (g, caps)
  | _ => none

theorem callee_rd {st : St} {a : Act} {w : World} {e : Env} (h : View st a w e) {f : Operand} {g : FuncId} {caps : List AV} (hf : st.callee f = some (g, caps)) :
    ∃ vs : Array Value, a.eval f = .func (.func g) #[] vs ∧ vs.size = caps.length ∧ ∀ (i : Nat) (x : AV) (v : Value), caps[i]? = some x → vs[i]? = some v → Rd w e x v := by
  unfold St.callee at hf
  have h1 := h.ev f
  split at hf
  · rename_i g' caps' hx
    cases hf
    rw [hx] at h1
    exact h1.clo_inv
  · cases hf

/-- new objects' names, at the result slot d -/
def atSlot (d : Nat) (id : Nat) : Nat := if 20000 ≤ id then 8 * d + (id - 20000) else id

/-- the names here of what comes back: what was handed over, and new objects, at the result slot d -/
def outName (ps : List (Nat × Nat)) (d n : Nat) : Nat := match look n ps with
  | some id => id
  | none => atSlot d n

def St.objsFor (st : St) (all : List (Nat × Nat)) : List (Nat × Nat) → Option (List (Nat × Obj))
  | [] => some []
  | (n, id) :: r => match look id st.objs, St.objsFor st all r with
    | some o, some os => if o.named (all.map (·.2)) then some ((n, o.ren (expName all)) :: os) else none
    | _, _ => none

/-- what comes back has names that were handed over, or 20000, 20001, ..; nothing that was handed over lies at the result slot -/
def backOk (ps : List (Nat × Nat)) (d : Nat) (objs : List (Nat × Obj)) : Bool :=
  (objs.all fun x => (look x.1 ps).isSome || (decide (20000 ≤ x.1) && decide (x.1 < 20008))) && ps.all fun x => !(decide (8 * d ≤ x.2) && decide (x.2 < 8 * d + 8))

def St.killIds (st : St) : List Nat → St
  | [] => st
  | id :: r => St.killIds (st.turn id (AV.kill id)) r
def delAll {α : Type} : List Nat → List (Nat × α) → List (Nat × α)
  | [], l => l
  | t :: r, l => delAll r (del t l)
def newIds (d : Nat) : List (Nat × Obj) → List Nat
  | [] => []
  | (n, _) :: r => if 20000 ≤ n then atSlot d n :: newIds d r else newIds d r

def St.adopt (st : St) (ps : List (Nat × Nat)) (d : Nat) (objs : List (Nat × Obj)) : St :=
  let s := st.killIds (newIds d objs)
  { s with objs := (objs.map fun x => (outName ps d x.1, x.2.ren (outName ps d))) ++ delAll (ps.map (·.2)) s.objs }

theorem look_delAll {α : Type} (s : Nat) : ∀ (ts : List Nat) (l : List (Nat × α)), look s (delAll ts l) = if s ∈ ts then none else look s l
  | [], l => by simp [delAll]
  | t :: r, l => by
    simp only [delAll, look_delAll s r (del t l), look_del, List.mem_cons]
    by_cases h1 : s ∈ r
    · simp [h1]
    · by_cases h2 : t = s
      · subst h2; simp
      · simp [h1, h2, Ne.symm h2]

theorem kill_conc {st : St} {a : Act} {w : World} {e : Env} (h : Conc st a w e) : ∀ (l : List Nat), (∀ id ∈ l, unp id = true) → ∃ e', Conc (st.killIds l) a w e' ∧ Fr w e w e' ∧ (∀ id ∈ l, e'.get id = none) ∧ (∀ id m, e'.get id = some m → e.get id = some m) ∧ ∀ id, id ∉ l → e'.get id = e.get id
  | [], _ => ⟨e, h, Fr.refl w e, fun id hid => by simp at hid, fun _ _ hm => hm, fun _ _ => rfl⟩
  | id :: l, hu => by
    have hfr := Fr.drop w e id (hu id (by simp))
    have ht := turns_kill (w := w) (e := e) id hfr (fun j hj => by simp [Env.drop, hj])
    have h1 := h.shrink id (AV.kill id) (hu id (by simp)) ht (AV.kill_cells id)
    obtain ⟨e', c1, f1, n1, g1, k1⟩ := kill_conc h1 l (fun j hj => hu j (by simp [hj]))
    refine ⟨e', c1, hfr.trans f1, fun j hj => ?_, fun j m hj => ?_, fun j hj => ?_⟩
    · rcases List.mem_cons.1 hj with rfl | hj
      · cases hg : e'.get j with
        | none => rfl
        | some m => have := g1 j m hg; simp [Env.drop] at this
      · exact n1 j hj
    · have := g1 j m hj
      simp only [Env.drop] at this
      split at this
      · cases this
      · exact this
    · simp only [List.mem_cons, not_or] at hj
      rw [k1 j hj.2]
      simp [Env.drop, hj.1]

theorem look_some_mem {α : Type} {t : Nat} : ∀ {l : List (Nat × α)}, (look t l).isSome = true ↔ ∃ x, (t, x) ∈ l
  | [] => by simp [look]
  | (k, y) :: r => by
    simp only [look]
    by_cases hk : k = t
    · subst hk; simp
    · rw [if_neg hk, look_some_mem]
      constructor
      · rintro ⟨x, hx⟩; exact ⟨x, by simp [hx]⟩
      · rintro ⟨x, hx⟩
        rcases List.mem_cons.1 hx with h | h
        · cases h; exact absurd rfl hk
        · exact ⟨x, h⟩

theorem look_append {α : Type} (t : Nat) : ∀ (l l' : List (Nat × α)), look t (l ++ l') = match look t l with | some x => some x | none => look t l'
  | [], l' => rfl
  | (k, y) :: r, l' => by
    simp only [List.cons_append, look]
    by_cases hk : k = t
    · subst hk; simp
    · simp only [if_neg hk]; exact look_append t r l'


theorem mem_newIds {d id : Nat} : ∀ {l : List (Nat × Obj)}, id ∈ newIds d l ↔ ∃ n, 20000 ≤ n ∧ (look n l).isSome = true ∧ id = atSlot d n
  | [] => by simp [newIds, look]
  | (k, o) :: r => by
    have ih := mem_newIds (d := d) (id := id) (l := r)
    simp only [newIds]
    constructor
    · intro h
      split at h
      · rename_i hk
        rcases List.mem_cons.1 h with rfl | h
        · exact ⟨k, hk, by simp [look], rfl⟩
        · obtain ⟨n, h1, h2, h3⟩ := ih.1 h
          exact ⟨n, h1, by simp only [look]; split <;> simp_all, h3⟩
      · obtain ⟨n, h1, h2, h3⟩ := ih.1 h
        exact ⟨n, h1, by simp only [look]; split <;> simp_all, h3⟩
    · rintro ⟨n, h1, h2, rfl⟩
      simp only [look] at h2
      split at h2
      · rename_i hk; subst hk; rw [if_pos h1]; simp
      · have := ih.2 ⟨n, h1, h2, rfl⟩
        split
        · exact List.mem_cons_of_mem _ this
        · exact this

/-- where what comes back is found -/
theorem look_back {ps : List (Nat × Nat)} (hps : psOk ps = true) {d : Nat} (hslot : ∀ n id, look n ps = some id → ¬ (8 * d ≤ id ∧ id < 8 * d + 8)) (f : Obj → Obj) : ∀ {l : List (Nat × Obj)}, (∀ x ∈ l, (look x.1 ps).isSome = true ∨ (20000 ≤ x.1 ∧ x.1 < 20008)) → ∀ id,
    look id (l.map fun x => (outName ps d x.1, f x.2)) = match findOld id ps with | some n => (look n l).map f | none => if 8 * d ≤ id ∧ id < 8 * d + 8 then (look (20000 + (id - 8 * d)) l).map f else none
  | [], _, id => by simp only [List.map_nil, look]; split <;> (try split) <;> rfl
  | (k, o) :: r, h, id => by
    have ih := look_back hps hslot f (l := r) (fun x hx => h x (List.mem_cons_of_mem _ hx)) id
    simp only [List.map_cons, ih, look]
    have hk := h (k, o) (by simp)
    simp only at hk
    cases hf : findOld id ps with
    | some n =>
      have hl := findOld_look (psOk_1 hps) hf
      simp only
      by_cases hkn : k = n
      · subst hkn
        rw [if_pos (by simp [outName, hl]), if_pos rfl]; rfl
      · rw [if_neg hkn, if_neg]
        intro ho
        simp only [outName] at ho
        cases hlk : look k ps with
        | some id' =>
          rw [hlk] at ho
          simp only at ho
          subst ho
          rw [look_findOld (psOk_2 hps) hlk] at hf
          cases hf; exact hkn rfl
        | none =>
          rw [hlk] at ho hk
          simp only [Option.isSome_none, Bool.false_eq_true, false_or] at hk
          simp only [atSlot, hk.1, if_true] at ho
          exact hslot n id hl (by omega)
    | none =>
      simp only
      have hkey : outName ps d k = id ↔ (8 * d ≤ id ∧ id < 8 * d + 8) ∧ k = 20000 + (id - 8 * d) := by
        simp only [outName]
        cases hlk : look k ps with
        | some id' =>
          simp only
          constructor
          · rintro rfl
            rw [look_findOld (psOk_2 hps) hlk] at hf; cases hf
          · rintro ⟨_, hk2⟩
            have := psOk_3 hps hlk; omega
        | none =>
          rw [hlk] at hk
          simp only [Option.isSome_none, Bool.false_eq_true, false_or] at hk
          simp only [atSlot, hk.1, if_true]
          omega
      by_cases hs : 8 * d ≤ id ∧ id < 8 * d + 8
      · rw [if_pos hs, if_pos hs]
        by_cases hk2 : k = 20000 + (id - 8 * d)
        · rw [if_pos (hkey.2 ⟨hs, hk2⟩), if_pos hk2]; rfl
        · rw [if_neg (fun h => hk2 (hkey.1 h).2), if_neg hk2]
      · rw [if_neg hs, if_neg hs, if_neg (fun h => hs (hkey.1 h).1)]

def Obj.free : Obj → Bool
  | .row _ _ _ els => els.all fun y => y.cells.all AV.free
  | .mp _ ents => ents.all fun x => x.2.free
  | .ext _ _ => true
  | .gone => true
  | .fix _ _ _ els => els.all fun y => y.cells.all AV.free

theorem Rd.embed {w w' : World} {e e' : Env} {x : AV} {v : Value} (h : Rd w e x v) (hg : ∀ id m, x.men id = true → e.get id = some m → ∃ m', e'.get id = some m' ∧ m.same m') (hq : ∀ b, e.q b → b < w.heap.size → w'.heap[b]? = w.heap[b]? ∧ e'.q b) : Rd w' e' x v := by
  have := h.ren (w' := w') (e' := e') (fun i => i) hg (.inl hq)
  rwa [AV.ren_id] at this

theorem ObjOk.ren {w w' : World} {e e' : Env} {m : Mta} {o : Obj} (ρ : Nat → Nat) (h : ObjOk w e m o) (hg : ∀ id m, o.men id = true → e.get id = some m → ∃ m', e'.get (ρ id) = some m' ∧ m.same m')
    (hq : (∀ b, e.q b → b < w.heap.size → w'.heap[b]? = w.heap[b]? ∧ e'.q b) ∨ o.free = true) (hsz : w.heap.size ≤ w'.heap.size) (hos : w'.os = w.os ∧ w'.tape = w.tape ∧ w'.output = w.output)
    (hb : ∀ b, m.has b → w'.heap[b]? = w.heap[b]?) : ObjOk w' e' m (o.ren ρ) := by
  cases o with
  | ext l J => exact ⟨h.blk, fun b hb' => Nat.lt_of_lt_of_le (h.lt b hb') hsz, h.stable _ _ _ h.holds (fun b hb' _ => hb b hb') hos.1 hos.2.1 hos.2.2 hsz, h.stable⟩
  | gone => exact h
  | fix ty sz cap els =>
    refine ⟨?_, h.2⟩
    have h := h.1
    refine ⟨h.hsz, h.len, h.cap, h.cells, h.only, ?_⟩
    have hk := h.blk
    cases hmb : m.blk with
    | none => simpa [hmb] using hk
    | some b =>
      simp only [hmb] at hk ⊢
      obtain ⟨cur, h1, h2, h3⟩ := hk
      refine ⟨cur, by rw [hb b (.inl hmb)]; exact h1, h2, fun i x hx j y hy => ?_⟩
      obtain ⟨v, g1, g2, g3⟩ := h3 i x hx j y hy
      refine ⟨v, g1, g2, ?_⟩
      simp only [CellRd, if_true] at g3 ⊢
      rcases hq with hq | hq
      · exact g3.evolve hq
      · simp only [Obj.free, List.all_eq_true] at hq
        exact g3.free (hq x (List.mem_of_getElem? hx) y (List.mem_of_getElem? hy))
  | mp sh ents =>
    obtain ⟨b, es, clock, h1, h2, h3, h3', h4⟩ := h.blk
    refine ⟨h.only, h.good, b, es, clock, h1, by rw [hb b (.inl h1)]; exact h2, h3, h3', fun i k x hx => ?_⟩
    obtain ⟨en, g1, g2, g3⟩ := h4 i k x hx
    refine ⟨en, g1, g2, ?_⟩
    rcases hq with hq | hq
    · exact g3.evolve hq
    · simp only [Obj.free, List.all_eq_true] at hq
      exact g3.free (hq _ (List.mem_of_getElem? hx))
  | row d ty sz els =>
    have hmenl : d = false → ∀ x ∈ els, ∀ y ∈ x.cells, ∀ id, y.men id = true → (Obj.row d ty sz els).men id = true := by
      intro hd x hx y hy id hm
      subst hd
      simp only [Obj.men]
      cases hxm : x.men id with
      | true => exact AV.menL_of hx hxm
      | false => rw [menL_cells hxm y hy] at hm; cases hm
    have hfree : ∀ x ∈ els, ∀ y ∈ x.cells, ((∀ b, e.q b → b < w.heap.size → w'.heap[b]? = w.heap[b]? ∧ e'.q b) ∨ y.free = true) := by
      intro x hx y hy
      rcases hq with hq | hq
      · exact .inl hq
      · simp only [Obj.free, List.all_eq_true] at hq
        exact .inr (hq x hx y hy)
    cases d with
    | true =>
      refine ⟨h.hsz, h.len, h.cap, h.cells, h.only, ?_⟩
      have hk := h.blk
      cases hmb : m.blk with
      | none => simpa [hmb] using hk
      | some b =>
        simp only [hmb] at hk ⊢
        obtain ⟨cur, h1, h2, h3⟩ := hk
        refine ⟨cur, by rw [hb b (.inl hmb)]; exact h1, h2, fun i x hx j y hy => ?_⟩
        obtain ⟨v, g1, g2, g3⟩ := h3 i x hx j y hy
        refine ⟨v, g1, g2, ?_⟩
        simp only [CellRd, if_true] at g3 ⊢
        rcases hfree x (List.mem_of_getElem? hx) y (List.mem_of_getElem? hy) with hq | hq
        · exact g3.evolve hq
        · exact g3.free hq
    | false =>
      refine ⟨h.hsz, by simpa using h.len, h.cap, fun x hx => ?_, h.only, ?_⟩
      · obtain ⟨y, hy, rfl⟩ := List.mem_map.1 hx
        rw [ren_mapCells, List.length_map]; exact h.cells y hy
      · have hk := h.blk
        cases hmb : m.blk with
        | none => simpa [hmb] using hk
        | some b =>
          simp only [hmb] at hk ⊢
          obtain ⟨cur, h1, h2, h3⟩ := hk
          refine ⟨cur, by rw [hb b (.inl hmb)]; exact h1, h2, fun i x hx j y hy => ?_⟩
          rw [List.getElem?_map] at hx
          obtain ⟨x0, hx0, rfl⟩ := Option.map_eq_some_iff.1 hx
          rw [ren_mapCells, List.getElem?_map] at hy
          obtain ⟨y0, hy0, rfl⟩ := Option.map_eq_some_iff.1 hy
          obtain ⟨v, g1, g2, g3⟩ := h3 i x0 hx0 j y0 hy0
          refine ⟨v, g1, g2, ?_⟩
          simp only [CellRd, Bool.false_eq_true, if_false] at g3 ⊢
          exact g3.ren ρ (fun id m hm => hg id m (hmenl rfl x0 (List.mem_of_getElem? hx0) y0 (List.mem_of_getElem? hy0) id hm)) (hfree x0 (List.mem_of_getElem? hx0) y0 (List.mem_of_getElem? hy0))

def freeNews (b : Bool) (r : AV) (objs : List (Nat × Obj)) : Bool := !b || (r.free && objs.all fun x => x.2.free)

theorem men_ren_id (o : Obj) : o.ren (fun i => i) = o := by
  cases o with
  | row d ty sz els =>
    cases d with
    | true => rfl
    | false =>
      simp only [Obj.ren, Obj.row.injEq, true_and]
      conv => rhs; rw [← List.map_id els]
      refine List.map_congr_left fun x _ => ?_
      cases x <;> simp only [AV.mapCells, AV.ren_id, id_eq, AV.agg.injEq]
      rename_i l _
      conv => rhs; rw [← List.map_id l]
      exact List.map_congr_left fun y _ => AV.ren_id y
  | _ => rfl

/-- what a call gives back, adopted -/
theorem adopt_conc {st : St} {a : Act} {w w' : World} {e ec : Env} (h : Conc st a w e) (b : Bool) {ps : List (Nat × Nat)} (hps : psOk ps = true) {d : Nat} (hd : d < 1250) {objs : List (Nat × Obj)} (hback : backOk ps d objs = true)
    (hs : Sim w' ec objs) (hf : Fr w (e.view ps b) w' ec) {r : AV} {v : Value} (hr : Rd w' ec r v) (hfree : freeNews b r objs = true) :
    ∃ e3, Conc (st.adopt ps d objs) a w' e3 ∧ Fr w e w' e3 ∧ Rd w' e3 (r.ren (outName ps d)) v := by
  simp only [backOk, Bool.and_eq_true, List.all_eq_true, Bool.or_eq_true, decide_eq_true_eq, Bool.not_eq_true', Bool.and_eq_false_iff, decide_eq_false_iff_not] at hback
  obtain ⟨hkeys, hslot0⟩ := hback
  have hslot : ∀ n id, look n ps = some id → ¬ (8 * d ≤ id ∧ id < 8 * d + 8) := fun n id hl => by have := hslot0 _ (look_mem hl); simp only at this; omega
  obtain ⟨e1, c1, f1, n1, g1, k1⟩ := kill_conc h (newIds d objs) (fun id hid => by
    obtain ⟨n, h1, h2, rfl⟩ := mem_newIds.1 hid
    obtain ⟨x, hx⟩ := look_some_mem.1 h2
    have := hkeys _ hx
    simp only [atSlot, h1, if_true, unp, Bool.or_eq_true, decide_eq_true_eq]
    rcases this with h3 | h3
    · obtain ⟨id, hl⟩ := Option.isSome_iff_exists.1 h3
      have := psOk_3 hps hl; simp only at this; omega
    · simp only at h3; omega)
  have hnewslot : ∀ id ∈ newIds d objs, 8 * d ≤ id ∧ id < 8 * d + 8 := by
    intro id hid
    obtain ⟨n, h1, h2, rfl⟩ := mem_newIds.1 hid
    obtain ⟨x, hx⟩ := look_some_mem.1 h2
    have := hkeys _ hx
    simp only [atSlot, h1, if_true]
    rcases this with h3 | h3
    · obtain ⟨id, hl⟩ := Option.isSome_iff_exists.1 h3
      have := psOk_3 hps hl; simp only at this; omega
    · simp only at h3; omega
  have hlive : ∀ n m, ec.get n = some m → (look n objs).isSome = true := fun n m hm => by have := hs.dom n; rw [hm] at this; exact this.symm
  have hkind : ∀ n m, ec.get n = some m → (∃ id, look n ps = some id) ∨ (look n ps = none ∧ 20000 ≤ n ∧ n < 20008) := by
    intro n m hm
    obtain ⟨o, ho⟩ := look_some_mem.1 (hlive n m hm)
    have := hkeys _ ho
    simp only at this
    cases hl : look n ps with
    | some id => exact .inl ⟨id, rfl⟩
    | none => rw [hl] at this; simp at this; exact .inr ⟨rfl, this⟩
  have hpass1 : ∀ n id, look n ps = some id → e1.get id = e.get id := fun n id hl => k1 id fun hm => hslot n id hl (hnewslot id hm)
  have hpass : ∀ n id m, look n ps = some id → e.get id = some m → ∃ m', ec.get n = some m' ∧ m.same m' := by
    intro n id m hl hm
    have hev : (e.view ps b).get n = some m := by show (look n ps).bind e.get = _; rw [hl]; exact hm
    rcases psOk_3 hps hl with h1 | h1
    · exact ⟨m, by rw [hf.pin n h1.1 h1.2]; exact hev, m.same_refl⟩
    · obtain ⟨rfl, rfl⟩ := h1
      exact hf.pins.ext m hev
  let e3 : Env := { get := fun id => match findOld id ps with
      | some n => ec.get n
      | none => if 8 * d ≤ id ∧ id < 8 * d + 8 ∧ (ec.get (20000 + (id - 8 * d))).isSome then ec.get (20000 + (id - 8 * d)) else e1.get id, pr := e1.pr, bs := e1.bs }
  have hget : ∀ id, e3.get id = match findOld id ps with
      | some n => ec.get n
      | none => if 8 * d ≤ id ∧ id < 8 * d + 8 ∧ (ec.get (20000 + (id - 8 * d))).isSome then ec.get (20000 + (id - 8 * d)) else e1.get id := fun _ => rfl
  have hnew : ∀ n m, ec.get n = some m → e3.get (outName ps d n) = some m := by
    intro n m hm
    rw [hget]
    rcases hkind n m hm with ⟨id, hl⟩ | ⟨hl, h1, h2⟩
    · rw [show outName ps d n = id from by simp [outName, hl], look_findOld (psOk_2 hps) hl]; exact hm
    · rw [show outName ps d n = 8 * d + (n - 20000) from by simp [outName, hl, atSlot, h1]]
      cases hfo : findOld (8 * d + (n - 20000)) ps with
      | some n' => exact absurd ⟨by omega, by omega⟩ (hslot n' _ (findOld_look (psOk_1 hps) hfo))
      | none =>
        have h3 : 20000 + (8 * d + (n - 20000) - 8 * d) = n := by omega
        simp only
        rw [h3, if_pos ⟨by omega, by omega, by rw [hm]; rfl⟩, hm]
  have hold : ∀ id m, e1.get id = some m → ∃ m', e3.get id = some m' ∧ m.same m' := by
    intro id m hm
    rw [hget]
    cases hfo : findOld id ps with
    | some n => exact hpass n id m (findOld_look (psOk_1 hps) hfo) (g1 id m hm)
    | none =>
      simp only
      rw [if_neg]
      · exact ⟨m, hm, m.same_refl⟩
      · rintro ⟨h1, h2, h3⟩
        obtain ⟨m', hm'⟩ := Option.isSome_iff_exists.1 h3
        have := n1 id (mem_newIds.2 ⟨_, by omega, hlive _ m' hm', by simp [atSlot]; omega⟩)
        rw [hm] at this; cases this
  have hcases : ∀ id m, e3.get id = some m → (∃ n, look n ps = some id ∧ ec.get n = some m) ∨ (∃ n, look n ps = none ∧ 20000 ≤ n ∧ id = 8 * d + (n - 20000) ∧ n < 20008 ∧ ec.get n = some m) ∨ (findOld id ps = none ∧ e1.get id = some m) := by
    intro id m hm
    rw [hget] at hm
    cases hfo : findOld id ps with
    | some n => rw [hfo] at hm; exact .inl ⟨n, findOld_look (psOk_1 hps) hfo, hm⟩
    | none =>
      rw [hfo] at hm
      simp only at hm
      split at hm
      · rename_i hc
        rcases hkind _ m hm with ⟨id', hl⟩ | ⟨hl, h1, h2⟩
        · have := psOk_3 hps hl; omega
        · exact .inr (.inl ⟨_, hl, h1, by omega, h2, hm⟩)
      · exact .inr (.inr ⟨rfl, hm⟩)
  -- blocks
  have hpr1 : e1.pr = e.pr := f1.pr
  have hO1 : ∀ x, ec.owned x → x < w.heap.size → e.subOwn ps x := fun x hx hlt => hf.own x hx hlt
  have hO3 : ∀ x, e3.owned x → ec.owned x ∨ ∃ id m, e1.get id = some m ∧ m.has x ∧ findOld id ps = none := by
    rintro x ⟨id, m, hm, hb⟩
    rcases hcases id m hm with ⟨n, _, h1⟩ | ⟨n, _, _, _, _, h1⟩ | ⟨h1, h2⟩
    · exact .inl ⟨n, m, h1, hb⟩
    · exact .inl ⟨n, m, h1, hb⟩
    · exact .inr ⟨id, m, h2, hb, h1⟩
  have hsub : ∀ x, e.subOwn ps x → ∃ n id m, look n ps = some id ∧ e.get id = some m ∧ m.has x := by
    rintro x ⟨n, m, h1, h2⟩
    cases hl : look n ps with
    | none => rw [hl] at h1; cases h1
    | some id => rw [hl] at h1; exact ⟨n, id, m, hl, h1, h2⟩
  have hS1 : ∀ x, e.subOwn ps x → e1.owned x := fun x hx => by
    obtain ⟨n, id, m, h1, h2, h3⟩ := hsub x hx
    exact ⟨id, m, by rw [hpass1 n id h1]; exact h2, h3⟩
  have hlt1 : ∀ x, e1.owned x → x < w.heap.size := fun x ⟨id, m, hm, hb⟩ => c1.sim.blk_lt hm hb
  have hkeep : ∀ x, x < w.heap.size → ¬ e.subOwn ps x → w'.heap[x]? = w.heap[x]? := fun x hx hn => hf.blk x hx hn
  have hnotpassed : ∀ x id m, e1.get id = some m → m.has x → findOld id ps = none → ¬ e.subOwn ps x := by
    intro x id m hm hb hfo hx
    obtain ⟨n, id', m', h1, h2, h3⟩ := hsub x hx
    have := h.sim.inj id id' m m' x (g1 id m hm) h2 hb h3
    subst this
    rw [look_findOld (psOk_2 hps) h1] at hfo; cases hfo
  have hfr1 : Fr w e1 w' e3 := ⟨hf.os, hf.tape, hf.output, hf.size, fun x hx hn => hkeep x hx (fun ho => hn (hS1 x ho)), fun x ho hx => by
      rcases hO3 x ho with h1 | ⟨id, m, h1, h2, _⟩
      · exact hS1 x (hO1 x h1 hx)
      · exact ⟨id, m, h1, h2⟩, rfl, ⟨fun id h1 h2 => by
      rw [hget]
      cases hfo : findOld id ps with
      | some n =>
        have hl := findOld_look (psOk_1 hps) hfo
        rw [hpass1 n id hl]
        rcases psOk_3 hps hl with h3 | h3
        · simp only
          rw [hf.pin n h3.1 h3.2]
          show (look n ps).bind e.get = _
          rw [hl]; rfl
        · omega
      | none => simp only; rw [if_neg (by omega)], hold 19999⟩⟩
  have hq1 : ∀ x, e1.q x → x < w.heap.size → w'.heap[x]? = w.heap[x]? ∧ e3.q x := fun x hq hx => ⟨hkeep x hx (fun ho => hq.2 (hS1 x ho)), hq.1, fun ho => by
    rcases hO3 x ho with h1 | ⟨id, m, h1, h2, _⟩
    · exact hq.2 (hS1 x (hO1 x h1 hx))
    · exact hq.2 ⟨id, m, h1, h2⟩⟩
  have hqq : b = false → ∀ x, ec.q x → e3.q x := by
    intro hb x hx
    subst hb
    have h1 : e.q x ∨ e.subOwn ps x := by have := hx.1; rw [hf.pr] at this; simpa [Env.view] using this
    refine ⟨?_, fun ho => ?_⟩
    · show e1.pr x
      rw [hpr1]
      rcases h1 with h1 | h1
      · exact h1.1
      · exact h.sim.prok x (subOwn_owned h1)
    · rcases hO3 x ho with h2 | ⟨id, m, h2, h3, h4⟩
      · exact hx.2 h2
      · rcases h1 with h1 | h1
        · exact h1.2 ⟨id, m, g1 id m h2, h3⟩
        · exact hnotpassed x id m h2 h3 h4 h1
  have hqo : (∀ x, ec.q x → x < w'.heap.size → w'.heap[x]? = w'.heap[x]? ∧ e3.q x) ∨ b = true := by
    cases hb : b with
    | false => exact .inl fun x hx _ => ⟨rfl, hqq hb x hx⟩
    | true => exact .inr rfl
  have hmem : ∀ id, id ∈ ps.map (·.2) ↔ ∃ n, findOld id ps = some n := fun id => ⟨findOld_mem, fun ⟨n, hn⟩ => List.mem_map.2 ⟨(n, id), look_mem (findOld_look (psOk_1 hps) hn), rfl⟩⟩
  have hkeys' : ∀ x ∈ objs, (look x.1 ps).isSome = true ∨ (20000 ≤ x.1 ∧ x.1 < 20008) := hkeys
  have hlook : ∀ id, look id (st.adopt ps d objs).objs = match findOld id ps with
      | some n => (look n objs).map (Obj.ren (outName ps d))
      | none => match (if 8 * d ≤ id ∧ id < 8 * d + 8 then (look (20000 + (id - 8 * d)) objs).map (Obj.ren (outName ps d)) else none) with
        | some o => some o
        | none => look id (st.killIds (newIds d objs)).objs := by
    intro id
    show look id ((objs.map fun x => (outName ps d x.1, x.2.ren (outName ps d))) ++ delAll (ps.map (·.2)) (st.killIds (newIds d objs)).objs) = _
    rw [look_append, look_back hps hslot _ hkeys', look_delAll]
    cases hfo : findOld id ps with
    | some n =>
      have : id ∈ ps.map (·.2) := (hmem id).2 ⟨n, hfo⟩
      simp only
      rw [if_pos this]
      cases look n objs <;> rfl
    | none =>
      have : id ∉ ps.map (·.2) := fun hm => by obtain ⟨n, hn⟩ := (hmem id).1 hm; rw [hfo] at hn; cases hn
      simp only
      rw [if_neg this]
      generalize (if 8 * d ≤ id ∧ id < 8 * d + 8 then (look (20000 + (id - 8 * d)) objs).map (Obj.ren (outName ps d)) else none) = q
      cases q <;> rfl
  refine ⟨e3, ⟨⟨fun id => ?_, fun i j mi mj x hi hj hbi hbj => ?_, fun id o m ho hm => ?_, fun x hx => ?_, fun x hx => ?_⟩, c1.defers.fr hfr1, c1.size, fun t x hx => ?_⟩, f1.trans hfr1, ?_⟩
  · rw [hlook, hget]
    cases hfo : findOld id ps with
    | some n => simp only [Option.isSome_map]; exact hs.dom n
    | none =>
      simp only
      by_cases hc : 8 * d ≤ id ∧ id < 8 * d + 8
      · rw [if_pos hc]
        have hdm := hs.dom (20000 + (id - 8 * d))
        cases hl : look (20000 + (id - 8 * d)) objs with
        | some o =>
          rw [hl] at hdm
          rw [if_pos ⟨hc.1, hc.2, hdm⟩]; simpa using hdm
        | none =>
          rw [hl] at hdm
          rw [if_neg (by rw [hdm]; simp)]; exact c1.sim.dom id
      · rw [if_neg hc, if_neg (fun h => hc ⟨h.1, h.2.1⟩)]; exact c1.sim.dom id
  · have mix : ∀ (n id : Nat) (m m' : Mta), ec.get n = some m → m.has x → e1.get id = some m' → m'.has x → findOld id ps = none → False := by
      intro n id m m' h1 h2 h3 h4 h5
      have hx := hlt1 x ⟨id, m', h3, h4⟩
      exact hnotpassed x id m' h3 h4 h5 (hO1 x ⟨n, m, h1, h2⟩ hx)
    rcases hcases i mi hi with ⟨n, p1, p2⟩ | ⟨n, p1, p2, p3, p4, p5⟩ | ⟨p1, p2⟩ <;> rcases hcases j mj hj with ⟨n', q1, q2⟩ | ⟨n', q1, q2, q3, q4, q5⟩ | ⟨q1, q2⟩
    · have := hs.inj n n' mi mj x p2 q2 hbi hbj
      subst this; rw [p1] at q1; cases q1; rfl
    · have := hs.inj n n' mi mj x p2 q5 hbi hbj
      subst this; rw [p1] at q1; cases q1
    · exact (mix n j mi mj p2 hbi q2 hbj q1).elim
    · have := hs.inj n n' mi mj x p5 q2 hbi hbj
      subst this; rw [p1] at q1; cases q1
    · have := hs.inj n n' mi mj x p5 q5 hbi hbj
      subst this; rw [p3, q3]
    · exact (mix n j mi mj p5 hbi q2 hbj q1).elim
    · exact (mix n' i mj mi q2 hbj p2 hbi p1).elim
    · exact (mix n' i mj mi q5 hbj p2 hbi p1).elim
    · exact c1.sim.inj i j mi mj x p2 q2 hbi hbj
  · rw [hlook] at ho
    have fromBack : ∀ n o2, look n objs = some o2 → ec.get n = some m → o2.ren (outName ps d) = o → ObjOk w' e3 m o := by
      rintro n o2 h1 h2 rfl
      refine (hs.obj n o2 m h1 h2).ren _ (fun id m hm hg => ⟨m, hnew id m hg, m.same_refl⟩) ?_ (Nat.le_refl _) ⟨rfl, rfl, rfl⟩ (fun _ _ => rfl)
      rcases hqo with hq | hb
      · exact .inl hq
      · subst hb
        simp only [freeNews, Bool.not_true, Bool.false_or, Bool.and_eq_true, List.all_eq_true] at hfree
        exact .inr (hfree.2 _ (look_mem h1))
    have fromOld : look id (st.killIds (newIds d objs)).objs = some o → findOld id ps = none → ObjOk w' e3 m o := by
      intro h1 h2
      obtain ⟨m', hm'⟩ := Option.isSome_iff_exists.1 (by rw [c1.sim.dom, h1]; rfl : (e1.get id).isSome = true)
      have hmm : m = m' := by
        obtain ⟨m2, g3, _⟩ := hold id m' hm'
        rw [hget, h2] at hm
        simp only at hm
        split at hm
        · rename_i hc
          have := n1 id (mem_newIds.2 ⟨20000 + (id - 8 * d), by omega, hlive _ m hm, by simp [atSlot]; omega⟩)
          rw [hm'] at this; cases this
        · rw [hm'] at hm; cases hm; rfl
      subst hmm
      have := (c1.sim.obj id o m h1 hm').ren (w' := w') (e' := e3) (fun i => i) (fun id m _ hg => hold id m hg) (.inl hq1) hf.size ⟨hf.os, hf.tape, hf.output⟩ (fun x hx => hkeep x (c1.sim.blk_lt hm' hx) (hnotpassed x id m hm' hx h2))
      rwa [men_ren_id] at this
    cases hfo : findOld id ps with
    | some n =>
      rw [hfo] at ho
      simp only at ho
      obtain ⟨o2, h1, h2⟩ := Option.map_eq_some_iff.1 ho
      refine fromBack n o2 h1 ?_ h2
      rw [hget, hfo] at hm; exact hm
    | none =>
      rw [hfo] at ho
      simp only at ho
      by_cases hc : 8 * d ≤ id ∧ id < 8 * d + 8
      · rw [if_pos hc] at ho
        cases hl : look (20000 + (id - 8 * d)) objs with
        | none => rw [hl] at ho; exact fromOld ho hfo
        | some o2 =>
          rw [hl] at ho
          cases ho
          refine fromBack _ o2 hl ?_ rfl
          rw [hget, hfo] at hm
          simp only at hm
          rw [if_pos ⟨hc.1, hc.2, by rw [hs.dom, hl]; rfl⟩] at hm; exact hm
      · rw [if_neg hc] at ho; exact fromOld ho hfo
  · show e1.pr x
    rcases hO3 x hx with h1 | ⟨id, m, h1, h2, _⟩
    · have := hs.prok x h1
      rw [hf.pr] at this
      rw [hpr1]
      rcases this with h2 | h2
      · cases b
        · exact h2.1
        · exact h2
      · exact h.sim.prok x (subOwn_owned h2)
    · exact c1.sim.prok x ⟨id, m, h1, h2⟩
  · exact c1.sim.new x (Nat.le_trans hf.size hx)
  · obtain ⟨v, hv, hrd⟩ := c1.tmp t x hx
    exact ⟨v, hv, hrd.embed (fun id m _ hg => hold id m hg) hq1⟩
  · refine hr.ren (outName ps d) (fun n m _ hg => ⟨m, hnew n m hg, m.same_refl⟩) ?_
    rcases hqo with hq | hb
    · exact .inl hq
    · subst hb
      simp only [freeNews, Bool.not_true, Bool.false_or, Bool.and_eq_true] at hfree
      exact .inr hfree.1

theorem objsFor_get {st : St} {all : List (Nat × Nat)} : ∀ {l : List (Nat × Nat)} {os : List (Nat × Obj)}, st.objsFor all l = some os → ∀ n, look n os = ((look n l).bind fun id => look id st.objs).map (Obj.ren (expName all)) ∧ ∀ id o, look n l = some id → look id st.objs = some o → o.named (all.map (·.2)) = true
  | [], os, h, n => by cases h; exact ⟨rfl, fun id o hl => by cases hl⟩
  | (k, j) :: r, os, h, n => by
    simp only [St.objsFor] at h
    split at h
    · rename_i o os' h1 h2
      split at h
      · rename_i hn
        cases h
        obtain ⟨ih1, ih2⟩ := objsFor_get h2 n
        simp only [look]
        by_cases hk : k = n
        · rw [if_pos hk, if_pos hk]
          refine ⟨by simp [h1], fun id o' he ho => ?_⟩
          cases he; rw [h1] at ho; cases ho; exact hn
        · rw [if_neg hk, if_neg hk]; exact ⟨ih1, ih2⟩
      · cases h
    · cases h

/-- how arguments are seen by the function -/
def SnapRd (st : St) (ps : List (Nat × Nat)) (xs ys : List AV) (b : Bool) : Prop := ∀ a w e, View st a w e → (∀ b, e.owned b → e.pr b) → (∀ i j m m' b, e.get i = some m → e.get j = some m' → m.has b → m'.has b → i = j) →
  ys.length = xs.length ∧ ∀ (i : Nat) (x y : AV) (v : Value), xs[i]? = some x → ys[i]? = some y → Rd w e x v → Rd w (e.view ps b) y v
/-- A call: seen from st, made in S, which says more. -/
theorem call_core' {o : Oper} {f : Operand} {args : Array Operand} {tys : Array TypeId} (ho : o.op = .call { callee := .value f, args, argTypes := tys }) {st S : St} {g : FuncId} {caps : List AV} (hf : st.callee f = some (g, caps)) {ps : List (Nat × Nat)} (hps : psOk ps = true)
    {ys : List AV} {b : Bool} (hsn : SnapRd st ps (args.toList.map st.ev ++ caps) ys b) {os : List (Nat × Obj)} (hos : S.objsFor ps ps = some os) {R : AV → List (Nat × Obj) → Prop} (hc : ACalls P g ys os R) {d : Nat} (hd2 : d < 1250)
    (hK : ∀ r objs, R r objs → backOk ps d objs = true ∧ freeNews b r objs = true) {rd : Option Nat} {a : Act} {w : World} {e : Env} (hv : View st a w e) (h : Conc S a w e) {next : Act → World → Prop} {Q : Exit → Act → World → Prop}
    (hn : ∀ r objs v w' e', R r objs → Conc (S.adopt ps d objs) a w' e' → Fr w e w' e' → Rd w' e' (r.ren (outName ps d)) v → next (a.put o.dst v) w') : o.wpIn (FR rd) 0 P a w next Q := by
  obtain ⟨vs, hev, hvs, hvr⟩ := callee_rd hv hf
  refine upon_call ho hev hc.able ?_
  obtain ⟨hl, hr⟩ := hsn a w e hv h.sim.prok h.sim.inj
  have hsim : Sim w (e.view ps b) os := by
    refine ⟨fun n => ?_, fun i j m m' x hi hj hbi hbj => ?_, fun n o m ho hm => ?_, fun x hx => .inr hx, fun x hx => .inl ?_⟩
    · rw [(objsFor_get hos n).1]
      show ((look n ps).bind e.get).isSome = _
      rw [Option.isSome_map]
      cases look n ps with
      | none => rfl
      | some id => exact h.sim.dom id
    · simp only [Env.view, Option.bind_eq_some_iff] at hi hj
      obtain ⟨i', p1, p2⟩ := hi
      obtain ⟨j', q1, q2⟩ := hj
      have := h.sim.inj i' j' m m' x p2 q2 hbi hbj
      subst this
      have e1 := look_findOld (psOk_2 hps) p1
      rw [look_findOld (psOk_2 hps) q1] at e1
      cases e1; rfl
    · rw [(objsFor_get hos n).1] at ho
      obtain ⟨o0, ho0, rfl⟩ := Option.map_eq_some_iff.1 ho
      simp only [Option.bind_eq_some_iff] at ho0
      obtain ⟨id, p1, p2⟩ := ho0
      have hm' : e.get id = some m := by
        have : (look n ps).bind e.get = some m := hm
        rw [p1] at this; exact this
      have hnm := (objsFor_get hos n).2 id o0 p1 p2
      refine (h.sim.obj id o0 m p2 hm').ren _ (fun j mj hj hg => ?_) (.inl fun x hx _ => ⟨rfl, view_q h.sim.prok hx⟩) (Nat.le_refl _) ⟨rfl, rfl, rfl⟩ (fun _ _ => rfl)
      have hjm : j ∈ ps.map (·.2) := by
        cases o0 with
        | row dd ty sz els =>
          cases dd with
          | true => simp [Obj.men] at hj
          | false =>
            simp only [Obj.named, List.all_eq_true] at hnm
            simp only [Obj.men] at hj
            have : ∀ l : List AV, (∀ x ∈ l, AV.namedL (ps.map (·.2)) x.cells = true) → AV.menL j l = true → j ∈ ps.map (·.2) := by
              intro l
              induction l with
              | nil => intro _ hm; simp [AV.menL] at hm
              | cons x xs ih =>
                intro hall hm
                simp only [AV.menL, Bool.or_eq_true] at hm
                rcases hm with hm | hm
                · have hx := hall x (by simp)
                  have hmx : AV.menL j x.cells = true := by
                    cases x <;> first
                      | (simp [AV.men] at hm; done)
                      | (simpa [AV.cells, AV.menL, AV.men] using hm)
                  exact AV.namedL_men x.cells hx hmx
                · exact ih (fun y hy => hall y (by simp [hy])) hm
            exact this els hnm hj
        | mp sh ents => simp [Obj.men] at hj
        | ext l J => simp [Obj.men] at hj
        | gone => simp [Obj.men] at hj
        | fix ty sz cap els => simp [Obj.men] at hj
      obtain ⟨n', h1⟩ := findOld_mem hjm
      refine ⟨mj, ?_, mj.same_refl⟩
      show (look (expName ps j) ps).bind e.get = some mj
      rw [show expName ps j = n' from by simp [expName, h1], findOld_look (psOk_1 hps) h1]; exact hg
    · have h1 := h.sim.new x hx
      have h2 : ¬ e.owned x := by
        rintro ⟨id, m, hm, hb⟩
        have := h.sim.blk_lt hm hb; omega
      cases b
      · exact ⟨h1, h2⟩
      · exact h1
  refine (hc.run w (e.view ps b) (args.map a.eval ++ vs) hsim (by rw [hl]; simp [hvs]) fun i y v hy hv' => ?_).mono ?_
  · have hx : (args.toList.map st.ev ++ caps)[i]? = some ((args.toList.map st.ev ++ caps)[i]'(by rw [← hl]; exact (List.getElem?_eq_some_iff.1 hy).1)) := List.getElem?_eq_getElem _
    refine hr i _ y v hx hy ?_
    by_cases hi : i < args.size
    · rw [List.getElem?_append_left (by simpa using hi)] at hx
      rw [Array.getElem?_append_left (by simpa using hi)] at hv'
      exact map_rd hv args.toList i _ v hx (by simpa using hv')
    · rw [List.getElem?_append_right (by simpa using hi)] at hx
      rw [Array.getElem?_append_right (by simpa using hi)] at hv'
      simp only [List.length_map, Array.length_toList] at hx
      simp only [Array.size_map] at hv'
      exact hvr _ _ v hx hv'
  · rintro en w' ⟨v, r, objs', ec, rfl, h1, h2, h3, h4⟩
    obtain ⟨k1, k2⟩ := hK r objs' h1
    obtain ⟨e3, q1, q2, q3⟩ := adopt_conc h b hps hd2 k1 h2 h3 h4 k2
    exact hn _ _ v w' e3 h1 q1 q2 q3

theorem call_core {o : Oper} {f : Operand} {args : Array Operand} {tys : Array TypeId} (ho : o.op = .call { callee := .value f, args, argTypes := tys }) {st S : St} {g : FuncId} {caps : List AV} (hf : st.callee f = some (g, caps)) {ps : List (Nat × Nat)} (hps : psOk ps = true)
    {ys : List AV} {b : Bool} (hsn : st.snaps ps (args.toList.map st.ev ++ caps) = some (ys, b)) {os : List (Nat × Obj)} (hos : S.objsFor ps ps = some os) {R : AV → List (Nat × Obj) → Prop} (hc : ACalls P g ys os R) {d : Nat} (hd2 : d < 1250)
    (hK : ∀ r objs, R r objs → backOk ps d objs = true ∧ freeNews b r objs = true) {rd : Option Nat} {a : Act} {w : World} {e : Env} (hv : View st a w e) (h : Conc S a w e) {next : Act → World → Prop} {Q : Exit → Act → World → Prop}
    (hn : ∀ r objs v w' e', R r objs → Conc (S.adopt ps d objs) a w' e' → Fr w e w' e' → Rd w' e' (r.ren (outName ps d)) v → next (a.put o.dst v) w') : o.wpIn (FR rd) 0 P a w next Q :=
  call_core' ho hf hps (fun _ _ _ hv hp hi => snaps_rd hps hv hp hi hsn) hos hc hd2 hK hv h hn

/-- A call. d: where new objects go (the result's slot). -/
theorem WOp.call {o : Oper} {f : Operand} {args : Array Operand} {tys : Array TypeId} (ho : o.op = .call { callee := .value f, args, argTypes := tys }) {st : St} {g : FuncId} {caps : List AV} (hf : st.callee f = some (g, caps)) (ps : List (Nat × Nat)) (hps : psOk ps = true)
    {ys : List AV} {b : Bool} (hsn : st.snaps ps (args.toList.map st.ev ++ caps) = some (ys, b)) {os : List (Nat × Obj)} (hos : st.objsFor ps ps = some os) {R : AV → List (Nat × Obj) → Prop} (hc : ACalls P g ys os R) {d : Nat} (hd : o.dst.getD 1249 = d) (hd2 : d < 1250) {K : AV → St → Prop}
    (hK : ∀ r objs, R r objs → backOk ps d objs = true ∧ freeNews b r objs = true ∧ K (r.ren (outName ps d)) (st.adopt ps d objs)) : WOp P o st K := by
  intro rd a w e h next Q hn
  exact call_core ho hf hps hsn hos hc hd2 (fun r objs hR => ⟨(hK r objs hR).1, (hK r objs hR).2.1⟩) h.view h fun r objs v w' e' hR h1 h2 h3 => hn _ _ v w' e' (hK r objs hR).2.2 h1 h2 h3
#print axioms WOp.call

/-! ### a function's beginning and end -/
def enumA (k : Nat) : List AV → List (Nat × AV)
  | [] => []
  | x :: xs => (k, x) :: enumA (k + 1) xs

theorem look_enumA : ∀ (l : List AV) (k t : Nat) (x : AV), look t (enumA k l) = some x → k ≤ t ∧ l[t - k]? = some x
  | y :: ys, k, t, x, h => by
    simp only [enumA, look] at h
    split at h
    · rename_i hk; subst hk; cases h; simp
    · obtain ⟨h1, h2⟩ := look_enumA ys (k + 1) t x h
      refine ⟨by omega, ?_⟩
      rw [show t - k = (t - (k + 1)) + 1 from by omega]; simpa using h2

def St.enter (nt : Nat) (args : List AV) (objs : List (Nat × Obj)) : St := ⟨nt, enumA 0 args, objs⟩

def resultA (Γ : TypeId → Option TI) (st : St) : ResultVar → Option AV
  | .tmp t => some (st.at t)
  | .cell p t => match Γ t with
    | some ti => loadA ti st.objs (st.at p)
    | none => none
def resultsL (Γ : TypeId → Option TI) (st : St) : List ResultVar → Option (List AV)
  | [] => some []
  | x :: xs => match resultA Γ st x, resultsL Γ st xs with
    | some y, some ys => some (y :: ys)
    | _, _ => none
def resultsA (Γ : TypeId → Option TI) (st : St) (rs : List ResultVar) : Option AV :=
  match resultsL Γ st rs with
  | some [x] => some x
  | some l => some (.tup l)
  | none => none

theorem run_resultA (hΓ : TOk P Γ) {st : St} {a : Act} {w : World} {e : Env} (h : Conc st a w e) {rv : ResultVar} {x : AV} (hr : resultA Γ st rv = some x) :
    ∃ v, ((match rv with | .tmp t => pure (a.tmps.getD t undef) | .cell p t => do loadVar t (← asAddr (a.tmps.getD p undef))) : Sem Value).run P w = .ok v w ∧ Rd w e x v := by
  cases rv with
  | tmp t =>
    cases hr
    exact ⟨_, rfl, h.ev (.tmp t)⟩
  | cell p t =>
    simp only [resultA] at hr
    split at hr
    · rename_i ti ht
      have hp := h.ev (.tmp p)
      obtain ⟨v, h1, h2⟩ := run_loadA (hΓ _ _ ht) h.sim.obj hp hr
      refine ⟨v, ?_, h2⟩
      simp only [Act.eval] at h1
      -- the address is sure
      have hx : ∃ ad, a.tmps.getD p undef = .pointer (some ad) := by
        cases hv : a.tmps.getD p undef with
        | pointer q =>
          cases q with
          | some ad => exact ⟨ad, rfl⟩
          | none => rw [hv] at h1; simp [Instr.loadAt, Instr.sureAddr] at h1
        | _ => rw [hv] at h1; simp [Instr.loadAt, Instr.sureAddr] at h1
      obtain ⟨ad, hv⟩ := hx
      rw [hv] at h1
      simp only [Instr.loadAt, Instr.sureAddr, Sem.run_bind, Sem.run_pure, Result.andThen_ok] at h1
      simp [hv, asAddr, h1]
    · cases hr

theorem run_resultsL (hΓ : TOk P Γ) {st : St} {a : Act} {w : World} {e : Env} (h : Conc st a w e) : ∀ {rs : List ResultVar} {xs : List AV}, resultsL Γ st rs = some xs →
    ∃ vs : List Value, (rs.mapM fun rv => ((match rv with | .tmp t => pure (a.tmps.getD t undef) | .cell p t => do loadVar t (← asAddr (a.tmps.getD p undef))) : Sem Value)).run P w = .ok vs w ∧ vs.length = xs.length ∧
      ∀ (i : Nat) (x : AV) (v : Value), xs[i]? = some x → vs[i]? = some v → Rd w e x v
  | [], xs, hr => by cases hr; exact ⟨[], rfl, rfl, fun i x v hx => by simp at hx⟩
  | rv :: rs, xs, hr => by
    simp only [resultsL] at hr
    split at hr
    · rename_i y ys h1 h2
      cases hr
      obtain ⟨v, g1, g2⟩ := run_resultA hΓ h h1
      obtain ⟨vs, k1, k2, k3⟩ := run_resultsL hΓ h h2
      refine ⟨v :: vs, ?_, by simp [k2], fun i x u hx hu => ?_⟩
      · rw [List.mapM_cons, Sem.run_bind, g1, Result.andThen_ok, Sem.run_bind, k1]; rfl
      · cases i with
        | zero => simp at hx hu; subst hx; subst hu; exact g2
        | succ i => exact k3 i x u (by simpa using hx) (by simpa using hu)
    · cases hr

theorem run_resultsA (hΓ : TOk P Γ) {st : St} {a : Act} {w : World} {e : Env} (h : Conc st a w e) {fn : Func} {x : AV} (hr : resultsA Γ st fn.results.toList = some x) : ∃ v, (results fn a.tmps).run P w = .ok v w ∧ Rd w e x v := by
  unfold resultsA at hr
  have key : ∀ xs, resultsL Γ st fn.results.toList = some xs → ∃ vs : List Value, vs.length = xs.length ∧ (∀ (i : Nat) (x : AV) (v : Value), xs[i]? = some x → vs[i]? = some v → Rd w e x v) ∧
      (results fn a.tmps).run P w = .ok (if h : vs.toArray.size = 1 then vs.toArray[0] else .tuple vs.toArray) w := by
    intro xs hxs
    obtain ⟨vs, h1, h2, h3⟩ := run_resultsL hΓ h hxs
    refine ⟨vs, h2, h3, ?_⟩
    unfold results
    rw [Sem.run_bind, Array.mapM_eq_mapM_toList]
    have h1' : (Functor.map (fun a => a.toArray) (fn.results.toList.mapM fun rv => ((match rv with | .tmp t => pure (a.tmps.getD t undef) | .cell p t => do loadVar t (← asAddr (a.tmps.getD p undef))) : Sem Value))).run P w = .ok vs.toArray w := by
      rw [Sem.run_map, h1]; rfl
    exact (congrArg (fun q : Result (Array Value) => q.andThen _) h1')
  split at hr
  · rename_i y hy
    cases hr
    obtain ⟨vs, h1, h2, h3⟩ := key _ hy
    obtain ⟨v, rfl⟩ : ∃ v, vs = [v] := by
      cases vs with
      | nil => simp at h1
      | cons v t => cases t with
        | nil => exact ⟨v, rfl⟩
        | cons => simp at h1
    exact ⟨v, by rw [h3]; rfl, h2 0 _ v rfl rfl⟩
  · rename_i xs hne hxs
    cases hr
    obtain ⟨vs, h1, h2, h3⟩ := key _ hxs
    refine ⟨.tuple vs.toArray, ?_, .tup _ _ (by simpa using h1) fun i x v hx hv => h2 i x v hx (by simpa using hv)⟩
    rw [h3, dif_neg]
    intro hsz
    have : vs.length = 1 := by simpa using hsz
    obtain ⟨y, rfl⟩ : ∃ y, xs = [y] := by
      rw [h1] at this
      cases xs with
      | nil => simp at this
      | cons v t => cases t with
        | nil => exact ⟨v, rfl⟩
        | cons => simp at this
    exact hne y rfl
  · cases hr
#print axioms run_resultsA
end
end Go.Sim
