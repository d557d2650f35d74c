/- Calls of functions that are handed data alone; how a function begins and ends. -/
import Derived.Test.YtggbbldoopfejaaSi
namespace Go.Sim
open Go.RowKit
section
variable {P : Program} {Γ : TypeId → Option TI}

/-! ### names of objects -/
mutual
def AV.ren (ρ : Nat → Nat) : AV → AV
  | .own i off len => .own (ρ i) off len
  | .ptr i k off => .ptr (ρ i) k off
  | .map i => .map (ρ i)
  | .yld i => .yld (ρ i)
  | .clo f l => .clo f (AV.renL ρ l)
  | .agg l => .agg (AV.renL ρ l)
  | .tup l => .tup (AV.renL ρ l)
  | x => x
def AV.renL (ρ : Nat → Nat) : List AV → List AV
  | [] => []
  | x :: xs => AV.ren ρ x :: AV.renL ρ xs
end

theorem AV.renL_get (ρ : Nat → Nat) : ∀ (l : List AV) (i : Nat), (AV.renL ρ l)[i]? = (l[i]?).map (AV.ren ρ)
  | [], i => by simp [AV.renL]
  | x :: xs, i => by
    cases i with
    | zero => simp [AV.renL]
    | succ i => simp [AV.renL, AV.renL_get ρ xs i]
theorem AV.renL_length (ρ : Nat → Nat) : ∀ (l : List AV), (AV.renL ρ l).length = l.length
  | [] => rfl
  | x :: xs => by simp [AV.renL, AV.renL_length ρ xs]

mutual
theorem AV.ren_data (ρ : Nat → Nat) : ∀ x : AV, x.isData = true → x.ren ρ = x
  | .val _, _ => rfl
  | .imm _, _ => rfl
  | .agg l, h => by simp only [AV.ren]; rw [AV.renL_data ρ l (by simpa [AV.isData] using h)]
theorem AV.renL_data (ρ : Nat → Nat) : ∀ l : List AV, AV.isDataL l = true → AV.renL ρ l = l
  | [], _ => rfl
  | x :: xs, h => by
    simp only [AV.isDataL, Bool.and_eq_true] at h
    simp [AV.renL, AV.ren_data ρ x h.1, AV.renL_data ρ xs h.2]
end

mutual
theorem AV.ren_id : ∀ x : AV, x.ren (fun i => i) = x
  | .dead => rfl
  | .val _ => rfl
  | .imm _ => rfl
  | .own .. => rfl
  | .ptr .. => rfl
  | .iptr _ => rfl
  | .map _ => rfl
  | .yld _ => rfl
  | .clo f l => by simp only [AV.ren]; rw [AV.renL_id l]
  | .agg l => by simp only [AV.ren]; rw [AV.renL_id l]
  | .tup l => by simp only [AV.ren]; rw [AV.renL_id l]
theorem AV.renL_id : ∀ l : List AV, AV.renL (fun i => i) l = l
  | [] => rfl
  | x :: xs => by simp [AV.renL, AV.ren_id x, AV.renL_id xs]
end

mutual
def AV.free : AV → Bool
  | .val _ => true
  | .agg l => AV.freeL l
  | .own .. => true
  | .tup l => AV.freeL l
  | _ => false
def AV.freeL : List AV → Bool
  | [] => true
  | x :: xs => AV.free x && AV.freeL xs
end
theorem AV.freeL_mem : ∀ {l : List AV} {x : AV}, AV.freeL l = true → x ∈ l → x.free = true
  | y :: ys, x, h, hx => by
    simp only [AV.freeL, Bool.and_eq_true] at h
    rcases List.mem_cons.1 hx with rfl | hx
    · exact h.1
    · exact AV.freeL_mem h.2 hx

theorem RdD.free {w w' : World} {q q' : Nat → Prop} {x : AV} {v : Value} (h : RdD w q x v) : x.free = true → RdD w' q' x v := by
  induction h with
  | val v => exact fun _ => .val v
  | imm0 => exact fun h => by simp [AV.free] at h
  | imm => exact fun h => by simp [AV.free] at h
  | agg l vs hs hr ih => exact fun h => .agg l vs hs fun i x v hx hv => ih i x v hx hv (AV.freeL_mem (by simpa [AV.free] using h) (List.mem_of_getElem? hx))

/-- Readings carried into another environment, objects renamed. -/
theorem Rd.ren {w w' : World} {e e' : Env} (ρ : Nat → Nat) {x : AV} {v : Value} (h : Rd w e x v) : (∀ id m, x.men id = true → e.get id = some m → ∃ m', e'.get (ρ id) = some m' ∧ m.same m') →
    ((∀ b, e.q b → b < w.heap.size → w'.heap[b]? = w.heap[b]? ∧ e'.q b) ∨ x.free = true) → Rd w' e' (x.ren ρ) v := by
  induction h with
  | dead v => exact fun _ _ => .dead v
  | data h =>
    intro hg hq
    rename_i x v
    rcases hq with hq | hq
    · have h2 : Rd w' e' x v := .data (h.evolve hq)
      cases h with
      | val => exact h2
      | imm0 => exact h2
      | imm => exact h2
      | agg l vs hs hr =>
        -- data names no object
        have hd : ∀ (l : List AV) (vs : Array Value), vs.size = l.length → (∀ (i : Nat) (x : AV) (v : Value), l[i]? = some x → vs[i]? = some v → RdD w e.q x v) → AV.renL ρ l = l := by
          intro l vs hs hr
          have aux : ∀ x v, RdD w e.q x v → x.ren ρ = x := by
            intro x v hx
            induction hx with
            | val => rfl
            | imm0 => rfl
            | imm => rfl
            | agg l vs hs hr ih =>
              simp only [AV.ren]
              congr 1
              refine List.ext_getElem? fun i => ?_
              rw [AV.renL_get]
              cases hl : l[i]? with
              | none => rfl
              | some y =>
                have hi : i < vs.size := by rw [hs]; exact (List.getElem?_eq_some_iff.1 hl).1
                simp [ih i y vs[i] hl (Array.getElem?_eq_getElem hi)]
          refine List.ext_getElem? fun i => ?_
          rw [AV.renL_get]
          cases hl : l[i]? with
          | none => rfl
          | some y =>
            have hi : i < vs.size := by rw [hs]; exact (List.getElem?_eq_some_iff.1 hl).1
            simp [aux y vs[i] (hr i y vs[i] hl (Array.getElem?_eq_getElem hi))]
        simp only [AV.ren]
        rw [hd l vs hs hr]; exact h2
    · have aux : ∀ x v, RdD w e.q x v → x.free = true → x.ren ρ = x := by
        intro x v hx
        induction hx with
        | val => exact fun _ => rfl
        | imm0 => exact fun _ => rfl
        | imm => exact fun _ => rfl
        | agg l vs hs hr ih =>
          intro hf
          simp only [AV.ren]
          congr 1
          refine List.ext_getElem? fun i => ?_
          rw [AV.renL_get]
          cases hl : l[i]? with
          | none => rfl
          | some y =>
            have hi : i < vs.size := by rw [hs]; exact (List.getElem?_eq_some_iff.1 hl).1
            simp [ih i y vs[i] hl (Array.getElem?_eq_getElem hi) (AV.freeL_mem (by simpa [AV.free] using hf) (List.mem_of_getElem? hl))]
      rw [aux _ _ h hq]
      exact .data (h.free hq)
  | own0 id m hm hb a =>
    intro hg _
    obtain ⟨m', h1, h2⟩ := hg id m (by simp [AV.men]) hm
    exact .own0 (ρ id) m' h1 (by rw [h2.1]; exact hb) a
  | own id off len m b hm hb hc =>
    intro hg _
    obtain ⟨m', h1, h2⟩ := hg id m (by simp [AV.men]) hm
    have := Rd.own (w := w') (ρ id) off len m' b h1 (by rw [h2.1]; exact hb) (by rw [h2.2.1]; exact hc)
    rwa [h2.2.1, h2.2.2] at this
  | ptr id i off m b hm hb =>
    intro hg _
    obtain ⟨m', h1, h2⟩ := hg id m (by simp [AV.men]) hm
    have := Rd.ptr (w := w') (ρ id) i off m' b h1 (by rw [h2.1]; exact hb)
    rwa [h2.2.2] at this
  | ownX id off len m hm hgo a cap ha hc =>
    intro hg _
    obtain ⟨m', h1, h2⟩ := hg id m (by simp [AV.men]) hm
    exact .ownX (ρ id) off len m' h1 ⟨h2.1.trans hgo.1, h2.2.1.trans hgo.2⟩ a cap ha hc
  | ptrX id i off m hm hgo a =>
    intro hg _
    obtain ⟨m', h1, h2⟩ := hg id m (by simp [AV.men]) hm
    exact .ptrX (ρ id) i off m' h1 ⟨h2.1.trans hgo.1, h2.2.1.trans hgo.2⟩ a
  | iptr l b off vals hne hqb hc hr =>
    intro hg hq
    rcases hq with hq | hq
    · obtain ⟨y0, ys, rfl⟩ := List.exists_cons_of_ne_nil hne
      have hb : b < w.heap.size := World.block_lt_of_cell? _ _ (hc 0 y0 (by simp))
      obtain ⟨hh, hq'⟩ := hq b hqb hb
      exact .iptr _ b off vals hne hq' (fun j y hy => by rw [← hc j y hy]; exact World.cell?_of_block hh) (fun j y hy => (hr j y hy).evolve hq)
    · simp [AV.free] at hq
  | map id m b hm hb =>
    intro hg _
    obtain ⟨m', h1, h2⟩ := hg id m (by simp [AV.men]) hm
    exact .map (ρ id) m' b h1 (by rw [h2.1]; exact hb)
  | yld id m b hm hb =>
    intro hg _
    obtain ⟨m', h1, h2⟩ := hg id m (by simp [AV.men]) hm
    exact .yld (ρ id) m' b h1 (by rw [h2.1]; exact hb)
  | mapX id m hm hgo b =>
    intro hg _
    obtain ⟨m', h1, h2⟩ := hg id m (by simp [AV.men]) hm
    exact .mapX (ρ id) m' h1 ⟨h2.1.trans hgo.1, h2.2.1.trans hgo.2⟩ b
  | yldX id m hm hgo b =>
    intro hg _
    obtain ⟨m', h1, h2⟩ := hg id m (by simp [AV.men]) hm
    exact .yldX (ρ id) m' h1 ⟨h2.1.trans hgo.1, h2.2.1.trans hgo.2⟩ b
  | clo f l vs hs hr ih =>
    intro hg hq
    simp only [AV.ren]
    refine .clo f _ vs (by rw [AV.renL_length]; exact hs) fun i x v hx hv => ?_
    rw [AV.renL_get] at hx
    obtain ⟨y, hy, rfl⟩ := Option.map_eq_some_iff.1 hx
    exact ih i y v hy hv (fun id m hid => hg id m (by simp only [AV.men]; exact AV.menL_of (List.mem_of_getElem? hy) hid)) (hq.imp id fun h => by simp [AV.free] at h)
  | agg l vs hs hr ih =>
    intro hg hq
    simp only [AV.ren]
    refine .agg _ vs (by rw [AV.renL_length]; exact hs) fun i x v hx hv => ?_
    rw [AV.renL_get] at hx
    obtain ⟨y, hy, rfl⟩ := Option.map_eq_some_iff.1 hx
    exact ih i y v hy hv (fun id m hid => hg id m (by simp only [AV.men]; exact AV.menL_of (List.mem_of_getElem? hy) hid)) (hq.imp id fun h => AV.freeL_mem (by simpa [AV.free] using h) (List.mem_of_getElem? hy))
  | tup l vs hs hr ih =>
    intro hg hq
    simp only [AV.ren]
    refine .tup _ vs (by rw [AV.renL_length]; exact hs) fun i x v hx hv => ?_
    rw [AV.renL_get] at hx
    obtain ⟨y, hy, rfl⟩ := Option.map_eq_some_iff.1 hx
    exact ih i y v hy hv (fun id m hid => hg id m (by simp only [AV.men]; exact AV.menL_of (List.mem_of_getElem? hy) hid)) (hq.imp id fun h => AV.freeL_mem (by simpa [AV.free] using h) (List.mem_of_getElem? hy))

/-! ### contracts -/
def Callable (P : Program) (f : FuncId) : Prop := ∃ fn, P.funcs[f]? = some fn ∧ (fn.name == "runtime.NumGoroutine") = false ∧ fn.body.isNone = false

/-- Function f, called with what reads as args (and the objects that these name), returns what R says. -/
structure ACalls (P : Program) (f : FuncId) (args : List AV) (objs : List (Nat × Obj)) (R : AV → List (Nat × Obj) → Prop) : Prop where
  able : Callable P f
  run : ∀ w e (vals : Array Value), Sim w e objs → vals.size = args.length → (∀ (i : Nat) (x : AV) (v : Value), args[i]? = some x → vals[i]? = some v → Rd w e x v) →
    Calls P f vals w fun en w' => ∃ v res objs' e', en = .returned v ∧ R res objs' ∧ Sim w' e' objs' ∧ Fr w e w' e' ∧ Rd w' e' res v

theorem ACalls.mono {f : FuncId} {args : List AV} {objs : List (Nat × Obj)} {R R' : AV → List (Nat × Obj) → Prop} (h : ACalls P f args objs R) (hr : ∀ r o, R r o → R' r o) : ACalls P f args objs R' :=
  ⟨h.able, fun w e vals h1 h2 h3 => (h.run w e vals h1 h2 h3).mono fun en w' ⟨v, res, objs', e', a, b, c⟩ => ⟨v, res, objs', e', a, hr _ _ b, c⟩⟩

theorem upon_call {o : Oper} {f : Operand} {args : Array Operand} {tys : Array TypeId} (ho : o.op = .call { callee := .value f, args, argTypes := tys }) {a : Act} {g : FuncId} {caps : Array Value} (hf : a.eval f = .func (.func g) #[] caps) (hg : Callable P g)
    {rd : Option Nat} {w : World} {next : Act → World → Prop} {Q : Exit → Act → World → Prop}
    (h : Calls P g (args.map a.eval ++ caps) w fun | .returned v, w'' => next (a.put o.dst v) w'' | .panicked chain, w'' => Q (.panic chain) a w'' | .outgrown, _ => LetsOut Q) : o.wpIn (FR rd) 0 P a w next Q := by
  obtain ⟨fn, h1, h2, h3⟩ := hg
  refine ⟨fun _ _ => trivial, ?_⟩
  have hrun : (execOp a.eval o).run P w = .ok (.enter g (args.map a.eval ++ caps)) w := by
    have h2' : ¬ fn.name = "runtime.NumGoroutine" := by simpa using h2
    have h3' : ¬ fn.body = none := fun hb => by rw [hb] at h3; simp at h3
    simp [execOp, ho, resolve, hf, Deferred.ofValue, invoke, callFunc, h1, h2', h3']
  rw [semAt_ok hrun (by simp)]
  exact ⟨fun hd => by simp [FR] at hd, callsIn_FR h⟩

/-! ### handing things to a function -/
mutual
/-- the names of objects in a value are among these -/
def AV.named (l : List Nat) : AV → Bool
  | .own i _ _ => l.contains i
  | .ptr i _ _ => l.contains i
  | .map i => l.contains i
  | .yld i => l.contains i
  | .clo _ xs => AV.namedL l xs
  | .agg xs => AV.namedL l xs
  | .tup xs => AV.namedL l xs
  | _ => true
def AV.namedL (l : List Nat) : List AV → Bool
  | [] => true
  | x :: xs => AV.named l x && AV.namedL l xs
end
mutual
theorem AV.named_men {l : List Nat} {id : Nat} : ∀ (x : AV), x.named l = true → x.men id = true → id ∈ l
  | .own i _ _, h, hm => by simp [AV.named, AV.men] at h hm; subst hm; exact h
  | .ptr i _ _, h, hm => by simp [AV.named, AV.men] at h hm; subst hm; exact h
  | .map i, h, hm => by simp [AV.named, AV.men] at h hm; subst hm; exact h
  | .yld i, h, hm => by simp [AV.named, AV.men] at h hm; subst hm; exact h
  | .clo _ xs, h, hm => AV.namedL_men xs (by simpa [AV.named] using h) (by simpa [AV.men] using hm)
  | .agg xs, h, hm => AV.namedL_men xs (by simpa [AV.named] using h) (by simpa [AV.men] using hm)
  | .tup xs, h, hm => AV.namedL_men xs (by simpa [AV.named] using h) (by simpa [AV.men] using hm)
  | .dead, _, hm => by simp [AV.men] at hm
  | .val _, _, hm => by simp [AV.men] at hm
  | .imm _, _, hm => by simp [AV.men] at hm
  | .iptr _, _, hm => by simp [AV.men] at hm
theorem AV.namedL_men {l : List Nat} {id : Nat} : ∀ (xs : List AV), AV.namedL l xs = true → AV.menL id xs = true → id ∈ l
  | [], _, hm => by simp [AV.menL] at hm
  | x :: xs, h, hm => by
    simp only [AV.namedL, Bool.and_eq_true] at h
    simp only [AV.menL, Bool.or_eq_true] at hm
    rcases hm with hm | hm
    · exact AV.named_men x h.1 hm
    · exact AV.namedL_men xs h.2 hm
end

/-- names: (what the function calls it, what it is called here) -/
def findOld (id : Nat) : List (Nat × Nat) → Option Nat
  | [] => none
  | (n, o) :: r => if o = id then some n else findOld id r
def expName (ks : List (Nat × Nat)) (id : Nat) : Nat := (findOld id ks).getD id
def Obj.ren (ρ : Nat → Nat) : Obj → Obj
  | .row false ty sz els => .row false ty sz (els.map (AV.mapCells (AV.ren ρ)))
  | o => o
def distinct : List Nat → Bool
  | [] => true
  | x :: r => !r.contains x && distinct r
def Obj.named (l : List Nat) : Obj → Bool
  | .row false _ _ els => els.all fun x => AV.namedL l x.cells
  | _ => true

theorem findOld_look : ∀ {ks : List (Nat × Nat)} {id n : Nat}, distinct (ks.map (·.1)) = true → findOld id ks = some n → look n ks = some id
  | (k, o) :: r, id, n, hd, h => by
    simp only [List.map_cons, distinct, Bool.and_eq_true, Bool.not_eq_true', List.contains_eq_mem, decide_eq_false_iff_not] at hd
    simp only [findOld] at h
    simp only [look]
    split at h
    · rename_i ho; cases h; subst ho; simp
    · have ih := findOld_look hd.2 h
      rw [if_neg]
      · exact ih
      · intro hk; subst hk
        exact hd.1 (List.mem_map.2 ⟨_, look_mem ih, rfl⟩)
theorem look_findOld : ∀ {ks : List (Nat × Nat)} {id n : Nat}, distinct (ks.map (·.2)) = true → look n ks = some id → findOld id ks = some n
  | (k, o) :: r, id, n, hd, h => by
    simp only [List.map_cons, distinct, Bool.and_eq_true, Bool.not_eq_true', List.contains_eq_mem, decide_eq_false_iff_not] at hd
    simp only [look] at h
    simp only [findOld]
    split at h
    · rename_i ho; cases h; subst ho; simp
    · have ih := look_findOld hd.2 h
      rw [if_neg]
      · exact ih
      · intro hk; subst hk
        exact hd.1 (List.mem_map.2 ⟨_, look_mem h, rfl⟩)
theorem findOld_mem : ∀ {ks : List (Nat × Nat)} {id : Nat}, id ∈ ks.map (·.2) → ∃ n, findOld id ks = some n
  | (k, o) :: r, id, h => by
    simp only [findOld]
    split
    · exact ⟨k, rfl⟩
    · rename_i hne
      refine findOld_mem (ks := r) ?_
      simp only [List.map_cons, List.mem_cons] at h
      rcases h with h | h
      · exact absurd h.symm hne
      · exact h
theorem ren_mapCells (ρ : Nat → Nat) (x : AV) : (x.mapCells (AV.ren ρ)).cells = x.cells.map (AV.ren ρ) := by
  cases x <;> rfl

/-- an argument, as the function sees it; and whether it shows memory that may be written later -/
def St.snap1 (st : St) (ps : List (Nat × Nat)) (x : AV) : Option (AV × Bool) :=
  match x with
  | .own id off len => match findOld id ps with
    | some n => some (.own n off len, false)
    | none => match look id st.objs with
      | some (.row true _ sz els) => if off + len ≤ els.length ∧ 0 < sz then some (.imm ((els.drop off).take len), true) else none
      | some (.fix _ sz _ els) => if off + len ≤ els.length ∧ 0 < sz then some (.imm ((els.drop off).take len), true) else none
      | _ => none
  | .val (.slice none 0 0) => some (.imm [], false)
  | x => if x.isData then some (x, false) else if x.named (ps.map (·.2)) then some (x.ren (expName ps), false) else none
def St.snapL (st : St) (ps : List (Nat × Nat)) : List AV → Option (List AV × Bool)
  | [] => some ([], false)
  | x :: xs => match st.snap1 ps x, st.snapL ps xs with
    | some (y, b), some (ys, c) => some (y :: ys, b || c)
    | _, _ => none
def St.snap (st : St) (ps : List (Nat × Nat)) (x : AV) : Option (AV × Bool) :=
  match x with
  | .agg l => match st.snapL ps l with
    | some (ys, b) => some (.agg ys, b)
    | none => none
  | x => st.snap1 ps x
def St.snaps (st : St) (ps : List (Nat × Nat)) : List AV → Option (List AV × Bool)
  | [] => some ([], false)
  | x :: xs => match st.snap ps x, st.snaps ps xs with
    | some (y, b), some (ys, c) => some (y :: ys, b || c)
    | _, _ => none

/-- the function's view: objects by its names; data may lie in what is shown, too, where b -/
def Env.subOwn (e : Env) (ps : List (Nat × Nat)) (x : Nat) : Prop := ∃ n m, (look n ps).bind e.get = some m ∧ m.has x
def Env.view (e : Env) (ps : List (Nat × Nat)) (b : Bool) : Env := { get := fun n => (look n ps).bind e.get, pr := fun x => (if b then e.pr x else e.q x) ∨ e.subOwn ps x, bs := e.bs }

theorem view_owned (e : Env) (ps : List (Nat × Nat)) (b : Bool) (x : Nat) : (e.view ps b).owned x ↔ e.subOwn ps x := Iff.rfl
theorem subOwn_owned {e : Env} {ps : List (Nat × Nat)} {x : Nat} (h : e.subOwn ps x) : e.owned x := by
  obtain ⟨n, m, h1, h2⟩ := h
  cases hl : look n ps with
  | none => rw [hl] at h1; cases h1
  | some id => rw [hl] at h1; exact ⟨id, m, h1, h2⟩
theorem view_q {e : Env} {ps : List (Nat × Nat)} {b : Bool} (hp : ∀ x, e.owned x → e.pr x) {x : Nat} (h : e.q x) : (e.view ps b).q x := by
  refine ⟨.inl ?_, fun ho => h.2 (subOwn_owned ho)⟩
  cases b
  · exact h
  · exact h.1
theorem view_shown {e : Env} {ps : List (Nat × Nat)} (hp : ∀ x, e.owned x → e.pr x) {x : Nat} (h : e.owned x) (hn : ¬ e.subOwn ps x) : (e.view ps true).q x := ⟨.inl (hp x h), hn⟩
theorem view_mono {e : Env} {ps : List (Nat × Nat)} {b b' : Bool} (hb : b' = true → b = true) {x : Nat} (h : (e.view ps b').q x) : (e.view ps b).q x := by
  refine ⟨?_, h.2⟩
  rcases h.1 with h1 | h1
  · refine .inl ?_
    cases b <;> cases b' <;> simp_all [Env.q]
  · exact .inr h1

theorem Rd.view {w : World} {e : Env} {ps : List (Nat × Nat)} {b b' : Bool} (hb : b' = true → b = true) {x : AV} {v : Value} (h : Rd w (e.view ps b') x v) : Rd w (e.view ps b) x v :=
  h.evolve (fun n hn hlt => ⟨rfl, view_mono hb hn⟩) (fun _ _ => rfl)

/-- the names are well chosen -/
def psOk (ps : List (Nat × Nat)) : Bool := distinct (ps.map (·.1)) && distinct (ps.map (·.2)) && ps.all fun x => (decide (10000 ≤ x.1) && decide (x.1 < 15000)) || (x.1 == 19999 && x.2 == 19999)

theorem psOk_1 {ps : List (Nat × Nat)} (h : psOk ps = true) : distinct (ps.map (·.1)) = true := by simp only [psOk, Bool.and_eq_true] at h; exact h.1.1
theorem psOk_2 {ps : List (Nat × Nat)} (h : psOk ps = true) : distinct (ps.map (·.2)) = true := by simp only [psOk, Bool.and_eq_true] at h; exact h.1.2
theorem psOk_3 {ps : List (Nat × Nat)} (h : psOk ps = true) {n id : Nat} (hl : look n ps = some id) : (10000 ≤ n ∧ n < 15000) ∨ (n = 19999 ∧ id = 19999) := by
  simp only [psOk, Bool.and_eq_true, List.all_eq_true] at h
  have := h.2 _ (look_mem hl)
  simpa using this

/-- a value whose names are handed on -/
theorem Rd.handOn {w : World} {e : Env} {ps : List (Nat × Nat)} {b : Bool} (hps : psOk ps = true) (hp : ∀ x, e.owned x → e.pr x) {x : AV} {v : Value} (h : Rd w e x v) (hn : x.named (ps.map (·.2)) = true) : Rd w (e.view ps b) (x.ren (expName ps)) v := by
  refine h.ren (expName ps) (fun id m hm hg => ?_) (.inl fun n hn _ => ⟨rfl, view_q hp hn⟩)
  obtain ⟨n, h1⟩ := findOld_mem (AV.named_men x hn hm)
  have h2 := findOld_look (psOk_1 hps) h1
  refine ⟨m, ?_, m.same_refl⟩
  show (look (expName ps id) ps).bind e.get = some m
  rw [show expName ps id = n from by simp [expName, h1], h2]; exact hg

theorem snap1_rd {st : St} {a : Act} {w : World} {e : Env} {ps : List (Nat × Nat)} (hps : psOk ps = true) (h : View st a w e) (hp : ∀ b, e.owned b → e.pr b) (hinj : ∀ i j m m' b, e.get i = some m → e.get j = some m' → m.has b → m'.has b → i = j)
    {x y : AV} {b : Bool} {v : Value} (hs : st.snap1 ps x = some (y, b)) (hx : Rd w e x v) : Rd w (e.view ps b) y v := by
  unfold St.snap1 at hs
  split at hs
  · rename_i id off len
    split at hs
    · rename_i n hf
      cases hs
      have h2 := findOld_look (psOk_1 hps) hf
      have := hx.handOn (b := false) hps hp (by simp only [AV.named, List.contains_eq_mem, decide_eq_true_eq]; exact List.mem_map.2 ⟨(n, id), look_mem h2, rfl⟩)
      simpa [AV.ren, expName, hf] using this
    · rename_i hno
      have main : ∀ (ty : TypeId) (sz : Nat) (els : List AV), (∀ m, e.get id = some m → RowOk w e m true ty sz els) → off + len ≤ els.length ∧ 0 < sz → Rd w (e.view ps true) (.imm ((els.drop off).take len)) v := by
        intro ty sz els hok hc
        obtain ⟨hle, hz⟩ := hc
        refine .data ?_
        cases hx with
        | data hx => cases hx
        | own0 _ m hm hb a0 => simpa using RdD.imm0 a0 0
        | ownX _ _ _ m hm hg => exact absurd hg (hok m hm).ngone
        | own _ _ _ m b hm hb hc =>
          have hk := hok m hm
          have hkb := hk.blk
          simp only [hb] at hkb
          obtain ⟨cur, h1, h2, h3⟩ := hkb
          have hms : m.sz = sz := hk.hsz
          have hpr : (e.view ps true).q b := view_shown hp ⟨id, m, hm, .inl hb⟩ (by
            rintro ⟨n, m', g1, g2⟩
            cases hl : look n ps with
            | none => rw [hl] at g1; cases g1
            | some id' =>
              rw [hl] at g1
              have := hinj id' id m' m b g1 hm g2 (.inl hb)
              subst this
              rw [look_findOld (psOk_2 hps) hl] at hno; cases hno)
          by_cases h0 : len = 0
          · subst h0; simpa using RdD.imm0 (some _) _
          · have hl : ((els.drop off).take len).length = len := by simp; omega
            have hget : ∀ (k : Nat) (x : AV), ((els.drop off).take len)[k]? = some x → els[off + k]? = some x := by
              intro k x hx
              rw [List.getElem?_take] at hx
              split at hx
              · rwa [List.getElem?_drop] at hx
              · cases hx
            have := RdD.imm (w := w) (q := (e.view ps true).q) ((els.drop off).take len) b (off * m.sz) (m.cap - off) sz (fun k j => (w.cell? ⟨b, off * m.sz + k * sz + j, none⟩).getD undef)
              (by intro hnil; rw [hnil] at hl; simp at hl; exact h0 hl.symm) hz hpr (by rw [hl]; have := hk.cap; omega) (by rw [hl]; omega)
              (fun x hx => hk.cells x (List.mem_of_mem_drop (List.mem_of_mem_take hx)))
              (fun k x hx j y hy => by
                obtain ⟨v, g1, g2, _⟩ := h3 _ x (hget k x hx) j y hy
                rw [show off * m.sz + k * sz + j = (off + k) * sz + j from by rw [hms, Nat.add_mul]]
                rw [cell_of_row w b _ cur ty (0, 0) h1, g1]; exact ⟨rfl, g2⟩)
              (fun k x hx j y hy => by
                obtain ⟨v, g1, g2, g3⟩ := h3 _ x (hget k x hx) j y hy
                rw [show off * m.sz + k * sz + j = (off + k) * sz + j from by rw [hms, Nat.add_mul]]
                rw [cell_of_row w b _ cur ty (0, 0) h1, g1]
                simp only [CellRd, if_true] at g3
                exact g3.evolve fun n hn hlt => ⟨rfl, view_q hp hn⟩)
            rw [hl] at this
            exact this
      split at hs
      · rename_i ty sz els ho
        split at hs
        · rename_i hc
          cases hs
          exact main ty sz els (fun m hm => h.obj id _ m ho hm) hc
        · cases hs
      · rename_i ty sz cap els ho
        split at hs
        · rename_i hc
          cases hs
          exact main ty sz els (fun m hm => (h.obj id _ m ho hm).1) hc
        · cases hs
      · cases hs
  · cases hs
    obtain rfl := hx.val_inv
    exact .data (.imm0 none 0)
  · split at hs
    · rename_i hd
      cases hs
      exact .data ((hx.toData hd).evolve fun n hn hlt => ⟨rfl, view_q hp hn⟩)
    · split at hs
      · rename_i hn
        cases hs
        exact hx.handOn hps hp hn
      · cases hs

theorem snapL_rd {st : St} {a : Act} {w : World} {e : Env} {ps : List (Nat × Nat)} (hps : psOk ps = true) (h : View st a w e) (hp : ∀ b, e.owned b → e.pr b) (hinj : ∀ i j m m' b, e.get i = some m → e.get j = some m' → m.has b → m'.has b → i = j) : ∀ {l ys : List AV} {b : Bool}, st.snapL ps l = some (ys, b) → ys.length = l.length ∧ ∀ (i : Nat) (x y : AV) (v : Value), l[i]? = some x → ys[i]? = some y → Rd w e x v → Rd w (e.view ps b) y v
  | [], ys, b, hs => by cases hs; exact ⟨rfl, fun i x y v hx => by simp at hx⟩
  | x :: xs, ys, b, hs => by
    simp only [St.snapL] at hs
    split at hs
    · rename_i y b1 ys' c h1 h2
      cases hs
      obtain ⟨l1, k1⟩ := snapL_rd hps h hp hinj h2
      refine ⟨by simp [l1], fun i z y' v hz hy hv => ?_⟩
      cases i with
      | zero => simp at hz hy; subst hz; subst hy; exact (snap1_rd hps h hp hinj h1 hv).view (fun hb => by simp [hb])
      | succ i => exact (k1 i z y' v (by simpa using hz) (by simpa using hy) hv).view (fun hb => by simp [hb])
    · cases hs

theorem snap_rd {st : St} {a : Act} {w : World} {e : Env} {ps : List (Nat × Nat)} (hps : psOk ps = true) (h : View st a w e) (hp : ∀ b, e.owned b → e.pr b) (hinj : ∀ i j m m' b, e.get i = some m → e.get j = some m' → m.has b → m'.has b → i = j) {x y : AV} {b : Bool} {v : Value} (hs : st.snap ps x = some (y, b)) (hx : Rd w e x v) : Rd w (e.view ps b) y v := by
  unfold St.snap at hs
  split at hs
  · rename_i l
    split at hs
    · rename_i ys b1 h1
      cases hs
      obtain ⟨l1, k1⟩ := snapL_rd hps h hp hinj h1
      obtain ⟨vs, rfl, hsz, hr⟩ := hx.agg_inv
      refine .agg _ vs (by rw [hsz, l1]) fun i y u hy hu => ?_
      have hlt : i < l.length := by rw [← l1]; exact (List.getElem?_eq_some_iff.1 hy).1
      exact k1 i _ y u (List.getElem?_eq_getElem hlt) hy (hr i _ u (List.getElem?_eq_getElem hlt) hu)
    · cases hs
  · exact snap1_rd hps h hp hinj hs hx

theorem snaps_rd {st : St} {a : Act} {w : World} {e : Env} {ps : List (Nat × Nat)} (hps : psOk ps = true) (h : View st a w e) (hp : ∀ b, e.owned b → e.pr b) (hinj : ∀ i j m m' b, e.get i = some m → e.get j = some m' → m.has b → m'.has b → i = j) : ∀ {l ys : List AV} {b : Bool}, st.snaps ps l = some (ys, b) → ys.length = l.length ∧ ∀ (i : Nat) (x y : AV) (v : Value), l[i]? = some x → ys[i]? = some y → Rd w e x v → Rd w (e.view ps b) y v
  | [], ys, b, hs => by cases hs; exact ⟨rfl, fun i x y v hx => by simp at hx⟩
  | x :: xs, ys, b, hs => by
    simp only [St.snaps] at hs
    split at hs
    · rename_i y b1 ys' c h1 h2
      cases hs
      obtain ⟨l1, k1⟩ := snaps_rd hps h hp hinj h2
      refine ⟨by simp [l1], fun i z y' v hz hy hv => ?_⟩
      cases i with
      | zero => simp at hz hy; subst hz; subst hy; exact (snap_rd hps h hp hinj h1 hv).view (fun hb => by simp [hb])
      | succ i => exact (k1 i z y' v (by simpa using hz) (by simpa using hy) hv).view (fun hb => by simp [hb])
    · cases hs
#print axioms snaps_rd
end
end Go.Sim
