/- Regions that draw their order: reckoned once, each operation seeing only what it waits for. -/
import Derived.Test.YtggbbldoopfejaaSl
import Derived.Orders
namespace Go.Sim
open Go.RowKit
section
variable {P : Program} {Γ : TypeId → Option TI}

/-! ### states that are alike to every look -/
theorem Conc.congr {S S' : St} {a : Act} {w : World} {e : Env} (h : Conc S a w e) (ht : ∀ t, look t S'.tmps = look t S.tmps) (ho : ∀ id, look id S'.objs = look id S.objs) (hn : S'.nt = S.nt) : Conc S' a w e :=
  ⟨⟨fun id => by rw [ho]; exact h.sim.dom id, h.sim.inj, fun id o m hl hm => h.sim.obj id o m (by rw [← ho]; exact hl) hm, h.sim.prok, h.sim.new⟩, h.defers, by rw [hn]; exact h.size, fun t x hx => h.tmp t x (by rw [← ht]; exact hx)⟩

theorem RdD.men {w : World} {q : Nat → Prop} {id : Nat} {x : AV} {v : Value} (h : RdD w q x v) : x.men id = false := by
  induction h with
  | val => rfl
  | imm0 => rfl
  | imm => rfl
  | agg l vs hs hr ih =>
    simp only [AV.men]
    have : ∀ l' : List AV, (∀ y ∈ l', y.men id = false) → AV.menL id l' = false := by
      intro l'; induction l' with
      | nil => exact fun _ => rfl
      | cons y ys ih2 => exact fun h => by simp [AV.menL, h y (by simp), ih2 (fun z hz => h z (by simp [hz]))]
    refine this l fun y hy => ?_
    obtain ⟨i, hi⟩ := List.mem_iff_getElem?.1 hy
    have hlt : i < vs.size := by rw [hs]; exact (List.getElem?_eq_some_iff.1 hi).1
    exact ih i y vs[i] hi (Array.getElem?_eq_getElem hlt)

theorem Rd.men {w : World} {e : Env} {id : Nat} (hid : e.get id = none) {x : AV} {v : Value} (h : Rd w e x v) : x.men id = false := by
  have aux : ∀ l' : List AV, (∀ y ∈ l', y.men id = false) → AV.menL id l' = false := by
    intro l'; induction l' with
    | nil => exact fun _ => rfl
    | cons y ys ih2 => exact fun h => by simp [AV.menL, h y (by simp), ih2 (fun z hz => h z (by simp [hz]))]
  have nid : ∀ i m, e.get i = some m → (i == id) = false := fun i m hm => by
    cases hb : i == id with
    | false => rfl
    | true => simp only [beq_iff_eq] at hb; subst hb; rw [hid] at hm; cases hm
  induction h with
  | dead => rfl
  | data h => exact h.men
  | own0 i m hm => exact nid i m hm
  | own i off len m b hm => exact nid i m hm
  | ptr i k off m b hm => exact nid i m hm
  | ownX i off len m hm => exact nid i m hm
  | ptrX i k off m hm => exact nid i m hm
  | iptr => rfl
  | map i m b hm => exact nid i m hm
  | yld i m b hm => exact nid i m hm
  | mapX i m hm => exact nid i m hm
  | yldX i m hm => exact nid i m hm
  | clo f l vs hs hr ih | agg l vs hs hr ih | tup l vs hs hr ih =>
    simp only [AV.men]
    refine aux l fun y hy => ?_
    obtain ⟨i, hi⟩ := List.mem_iff_getElem?.1 hy
    have hlt : i < vs.size := by rw [hs]; exact (List.getElem?_eq_some_iff.1 hi).1
    exact ih i y vs[i] hi (Array.getElem?_eq_getElem hlt)

theorem kill_same {id : Nat} {x : AV} (h : x.men id = false) : x.kill id = x := by simp [AV.kill, h]
theorem menL_false {id : Nat} : ∀ {l : List AV}, AV.menL id l = false → ∀ y ∈ l, y.men id = false
  | y :: ys, h, z, hz => by
    simp only [AV.menL, Bool.or_eq_false_iff] at h
    rcases List.mem_cons.1 hz with rfl | hz
    · exact h.1
    · exact menL_false h.2 z hz
theorem map_kill_same {id : Nat} {l : List AV} (h : AV.menL id l = false) : l.map (AV.kill id) = l := by
  conv => rhs; rw [← List.map_id l]
  exact List.map_congr_left fun y hy => kill_same (menL_false h y hy)
theorem mapTop_same {id : Nat} {x : AV} (h : x.men id = false) : x.mapTop (AV.kill id) = x := by
  cases x <;> simp only [AV.mapTop] <;> first
    | exact kill_same h
    | (rw [map_kill_same (by simpa [AV.men] using h)])
theorem mapCells_same {id : Nat} {x : AV} (h : x.men id = false) : x.mapCells (AV.kill id) = x := by
  cases x <;> simp only [AV.mapCells] <;> first
    | exact kill_same h
    | (rw [map_kill_same (by simpa [AV.men] using h)])

/-- An object that is no more: nothing that reads names it. -/
theorem turn_same {S : St} {a : Act} {w : World} {e : Env} (h : Conc S a w e) {id : Nat} (hid : e.get id = none) : (∀ t, look t (S.turn id (AV.kill id)).tmps = look t S.tmps) ∧ (∀ j o, look j S.objs = some o → (∃ m, e.get j = some m) → look j (S.turn id (AV.kill id)).objs = some o) ∧
    (∀ j, look j S.objs = none → look j (S.turn id (AV.kill id)).objs = none) := by
  refine ⟨fun t => ?_, fun j o ho hm => ?_, fun j hj => ?_⟩
  · simp only [St.turn, look_mapV]
    cases hl : look t S.tmps with
    | none => rfl
    | some x =>
      obtain ⟨v, _, hr⟩ := h.tmp t x hl
      simp [mapTop_same (hr.men hid)]
  · obtain ⟨m, hm⟩ := hm
    simp only [St.turn, look_del, look_mapV, ho]
    rw [if_neg (by intro he; subst he; rw [hid] at hm; cases hm)]
    have hob := h.sim.obj j o m ho hm
    cases o with
    | mp sh ents => rfl
    | ext l J => rfl
    | gone => rfl
    | fix ty sz cap els => rfl
    | row d ty sz els =>
      cases d with
      | true => rfl
      | false =>
        simp only [Option.map_some, Obj.map, Option.some.injEq, Obj.row.injEq, true_and]
        conv => rhs; rw [← List.map_id els]
        refine List.map_congr_left fun y hy => mapCells_same ?_
        -- y's cells are read
        obtain ⟨i, hi⟩ := List.mem_iff_getElem?.1 hy
        have hk := hob.blk
        cases hmb : m.blk with
        | none =>
          simp only [hmb] at hk
          have := hob.len
          rw [hk] at this
          have := (List.getElem?_eq_some_iff.1 hi).1
          omega
        | some b =>
          simp only [hmb] at hk
          obtain ⟨cur, h1, h2, h3⟩ := hk
          have hcell : ∀ z ∈ y.cells, z.men id = false := by
            intro z hz
            obtain ⟨k, hk⟩ := List.mem_iff_getElem?.1 hz
            obtain ⟨v, _, _, g3⟩ := h3 i y hi k z hk
            exact g3.rd.men hid
          cases y <;> simp only [AV.cells, List.mem_singleton, forall_eq] at hcell <;> first
            | exact hcell
            | (simp only [AV.men]
               clear hi hy h3
               rename_i l
               induction l with
               | nil => rfl
               | cons z zs ih => simp [AV.menL, hcell z (by simp), ih (fun q hq => hcell q (by simp [hq]))])
  · simp only [St.turn, look_del, look_mapV, hj]; simp

theorem turn_look {S : St} {a : Act} {w : World} {e : Env} (h : Conc S a w e) {id : Nat} (hid : e.get id = none) : ∀ j, look j (S.turn id (AV.kill id)).objs = look j S.objs := by
  intro j
  obtain ⟨_, h2, h3⟩ := turn_same h hid
  cases hl : look j S.objs with
  | none => exact h3 j hl
  | some o => exact h2 j o hl (Option.isSome_iff_exists.1 (by rw [h.sim.dom, hl]; rfl))

theorem killIds_look {a : Act} {w : World} {e : Env} : ∀ (l : List Nat) {S : St}, Conc S a w e → (∀ id ∈ l, e.get id = none) → (∀ t, look t (S.killIds l).tmps = look t S.tmps) ∧ (∀ j, look j (S.killIds l).objs = look j S.objs)
  | [], S, _, _ => ⟨fun _ => rfl, fun _ => rfl⟩
  | id :: l, S, h, hn => by
    have hid := hn id (by simp)
    have h1 := (turn_same h hid).1
    have h2 := turn_look h hid
    have hc : Conc (S.turn id (AV.kill id)) a w e := h.congr h1 h2 rfl
    obtain ⟨g1, g2⟩ := killIds_look l hc (fun j hj => hn j (by simp [hj]))
    exact ⟨fun t => by simp only [St.killIds]; rw [g1, h1], fun j => by simp only [St.killIds]; rw [g2, h2]⟩

theorem renew_look {S : St} {a : Act} {w : World} {e : Env} (h : Conc S a w e) {id : Nat} (hid : e.get id = none) (o : Obj) : (∀ t, look t (S.renew id o).tmps = look t S.tmps) ∧ ∀ j, look j (S.renew id o).objs = if id = j then some o else look j S.objs := by
  have h1 := (turn_same h hid).1
  have h2 := turn_look h hid
  refine ⟨h1, fun j => ?_⟩
  show look j ((id, o) :: del id (mapV (Obj.map (AV.kill id)) S.objs)) = _
  simp only [look]
  split
  · rfl
  · exact h2 j

/-! ### one operation, seen from what it waits for -/
def Sub (st S : St) : Prop := (∀ t x, look t st.tmps = some x → look t S.tmps = some x) ∧ ∀ id o, look id st.objs = some o → look id S.objs = some o

theorem Sub.view {st S : St} (hs : Sub st S) {a : Act} {w : World} {e : Env} (h : Conc S a w e) : View st a w e := by
  refine ⟨fun o => ?_, fun id o m ho hm => h.sim.obj id o m (hs.2 id o ho) hm⟩
  cases o with
  | tmp t =>
    have h1 := h.ev (.tmp t)
    simp only [St.ev, St.at] at h1 ⊢
    cases hl : look t st.tmps with
    | none => exact .dead _
    | some x => rw [hs.1 t x hl] at h1; exact h1
  | const v => exact .data (.val v)
  | global g => exact .dead _
  | func f => exact .clo f [] #[] rfl (fun i x v hx => by simp at hx)

theorem Sub.ev {st S : St} (hs : Sub st S) (o : Operand) : st.ev o = .dead ∨ S.ev o = st.ev o := by
  cases o with
  | tmp t =>
    simp only [St.ev, St.at]
    cases hl : look t st.tmps with
    | none => exact .inl rfl
    | some x => rw [hs.1 t x hl]; exact .inr rfl
  | const v => exact .inr rfl
  | global g => exact .inl rfl
  | func f => exact .inr rfl

/-- Seen from st, the operation gives r and makes (or turns) the objects new; whatever else is there. -/
def QStep (P : Program) (o : Oper) (st : St) (r : AV) (new : List (Nat × Obj)) : Prop :=
  ∀ S rd a w e, Conc S a w e → Sub st S → (∀ x ∈ new, (look x.1 st.objs).isSome = true ∨ look x.1 S.objs = none) → ∀ (next : Act → World → Prop) (Q : Exit → Act → World → Prop),
    (∀ v w' e', Conc { S with objs := new ++ S.objs } a w' e' → Fr w e w' e' → Rd w' e' r v → next (a.put o.dst v) w') → o.wpIn (FR rd) 0 P a w next Q

theorem QStep.pure (hΓ : TOk P Γ) {o : Oper} {st : St} {r : AV} (hr : evalP Γ o st = some r) : QStep P o st r [] := by
  intro S rd a w e h hs _ next Q hn
  obtain ⟨v, h1, h2⟩ := evalP_ok hΓ hr (hs.view h)
  refine ⟨fun _ _ => trivial, ?_⟩
  rw [semAt_ok h1 (by simp)]
  exact hn v w e (by simpa using h) (Fr.refl w e) h2

/-- new objects that only data goes into -/
noncomputable def evalN (Γ : TypeId → Option TI) (o : Oper) (st : St) : Option (AV × List (Nat × Obj)) :=
  match o.op with
  | .box el x => match slotId o with
    | some id => if (st.ev x).fit ∧ (st.ev x).isData ∧ unp id then some (.ptr id 0 0, [(id, .row false el (st.ev x).cells.length [st.ev x])]) else none
    | none => none
  | .alloc el => match Γ el, slotId o with
    | some ti, some id => if (zeroA ti.zero).fit ∧ unp id then some (.ptr id 0 0, [(id, .row false el (zeroA ti.zero).cells.length [zeroA ti.zero])]) else none
    | _, _ => none
  | .buildSlice t len parts => match Γ t, slotId o with
    | some ⟨_, _, _, .slice el, _⟩, some id => match Γ el with
      | some te => if AV.isDataL (parts.toList.map fun p => st.ev p.2) = true then (match (⟨0, [], []⟩ : St).buildSlice te el id len (parts.toList.map fun p => (p.1, st.ev p.2)) with
        | some (r, s) => some (r, s.objs)
        | none => none) else none
      | none => none
    | _, _ => none
  | _ => none

theorem toData1_data {S : St} {x : AV} (h : x.isData = true) : S.toData1 (fun y => y) x = some (x, S, fun y => y) := by
  unfold St.toData1
  cases x <;> first
    | (simp [AV.isData] at h; done)
    | simp [h]
theorem toDataL_data {S : St} : ∀ {l : List AV}, AV.isDataL l = true → S.toDataL (fun y => y) l = some (l, S, fun y => y)
  | [], _ => rfl
  | x :: xs, h => by
    simp only [AV.isDataL, Bool.and_eq_true] at h
    simp only [St.toDataL, toData1_data h.1, toDataL_data h.2]
theorem toDataE_data {S : St} {x : AV} (h : x.isData = true) : S.toDataE (fun y => y) x = some (x, S, fun y => y) := by
  unfold St.toDataE
  split
  · rename_i l
    rw [toDataL_data (by simpa [AV.isData] using h)]
  · exact toData1_data h
theorem toDataEs_data {S : St} : ∀ {l : List AV}, AV.isDataL l = true → S.toDataEs (fun y => y) l = some (l, S, fun y => y)
  | [], _ => rfl
  | x :: xs, h => by
    simp only [AV.isDataL, Bool.and_eq_true] at h
    simp only [St.toDataEs, toDataE_data h.1, toDataEs_data h.2]

theorem get_none {S : St} {a : Act} {w : World} {e : Env} (h : Conc S a w e) {id : Nat} (hid : look id S.objs = none) : e.get id = none := by
  have := h.sim.dom id
  rw [hid] at this
  cases hm : e.get id with
  | none => rfl
  | some m => rw [hm] at this; simp at this

theorem QStep.ofN (hΓ : TOk P Γ) {o : Oper} {st : St} {r : AV} {new : List (Nat × Obj)} (hr : evalN Γ o st = some (r, new)) (hfresh : ∀ x ∈ new, look x.1 st.objs = none) : QStep P o st r new := by
  have main : ∀ (S : St) rd a w e, Conc S a w e → ∀ (id : Nat) (ob : Obj), look id S.objs = none → new = [(id, ob)] → (∀ f, Obj.map f ob = ob ∨ True) → ∀ S', evalW0 Γ o S = some (r, S') → (∀ t, look t S'.tmps = look t S.tmps) → (∀ j, look j S'.objs = if id = j then some ob else look j S.objs) →
      ∀ (next : Act → World → Prop) (Q : Exit → Act → World → Prop), (∀ v w' e', Conc { S with objs := new ++ S.objs } a w' e' → Fr w e w' e' → Rd w' e' r v → next (a.put o.dst v) w') → o.wpIn (FR rd) 0 P a w next Q := by
    intro S rd a w e h id ob hno hnew _ S' hev ht hobj next Q hn
    obtain ⟨v, w', e', hs, hc, hf, hrd⟩ := evalW0_ok hΓ hev h
    have hc' : Conc { S with objs := new ++ S.objs } a w' e' := hc.congr (fun t => (ht t).symm) (fun j => by
      rw [hobj]; subst hnew; simp [look]) (by rw [← hc.size, h.size])
    refine ⟨fun _ _ => trivial, ?_⟩
    rcases hs with hs | ⟨hs, rfl⟩
    · rw [semAt_ok hs (by simp)]; exact hn v w' e' hc' hf hrd
    · rw [semAt_ok hs (by simp)]; exact hn _ w' e' hc' hf hrd
  intro S rd a w e h hs hno' next Q hn
  have hno : ∀ x ∈ new, look x.1 S.objs = none := fun x hx => (hno' x hx).resolve_left (by rw [hfresh x hx]; simp)
  unfold evalN at hr
  split at hr
  · rename_i el x ho
    split at hr
    · rename_i id hid
      split at hr
      · rename_i hc
        cases hr
        have hno' : look id S.objs = none := hno _ List.mem_cons_self
        have hge := get_none h hno'
        have hx : S.ev x = st.ev x := by
          rcases hs.ev x with hd | hd
          · rw [hd] at hc; simp [AV.isData] at hc
          · exact hd
        have hmen : (st.ev x).men id = false := AV.men_of_isData id _ hc.2.1
        have hmap : Obj.map (AV.kill id) (.row false el (st.ev x).cells.length [st.ev x]) = .row false el (st.ev x).cells.length [st.ev x] := by
          simp [Obj.map, mapCells_same hmen]
        obtain ⟨g1, g2⟩ := renew_look h hge (.row false el (st.ev x).cells.length [st.ev x])
        exact main S rd a w e h id _ hno' rfl (fun _ => .inr trivial) (S.renew id (.row false el (st.ev x).cells.length [st.ev x])) (by
          simp only [evalW0, ho, hid, St.box, hx]
          rw [if_pos ⟨hc.1, hc.2.2⟩, hmap]) g1 g2 next Q hn
      · cases hr
    · cases hr
  · rename_i el ho
    split at hr
    · rename_i ti id ht hid
      split at hr
      · rename_i hc
        cases hr
        have hno' : look id S.objs = none := hno _ List.mem_cons_self
        have hge := get_none h hno'
        have hmen : (zeroA ti.zero).men id = false := AV.men_of_isData id _ (zeroA_data _)
        have hmap : Obj.map (AV.kill id) (.row false el (zeroA ti.zero).cells.length [zeroA ti.zero]) = .row false el (zeroA ti.zero).cells.length [zeroA ti.zero] := by
          simp [Obj.map, mapCells_same hmen]
        obtain ⟨g1, g2⟩ := renew_look h hge (.row false el (zeroA ti.zero).cells.length [zeroA ti.zero])
        exact main S rd a w e h id _ hno' rfl (fun _ => .inr trivial) (S.renew id (.row false el (zeroA ti.zero).cells.length [zeroA ti.zero])) (by
          simp only [evalW0, ho, ht, hid, St.box]
          rw [if_pos ⟨hc.1, hc.2⟩, hmap]) g1 g2 next Q hn
      · cases hr
    · cases hr
  · rename_i t len parts ho
    split at hr
    · rename_i s1 s2 s3 el s4 id ht hid
      split at hr
      · rename_i te hte
        split at hr
        · rename_i hdata
          split at hr
          · rename_i r' s hb
            cases hr
            -- the parts are the same in S
            have hparts : (parts.toList.map fun p => (p.1, S.ev p.2)) = (parts.toList.map fun p => (p.1, st.ev p.2)) := by
              refine List.map_congr_left fun p hp => ?_
              rcases hs.ev p.2 with hd | hd
              · have := AV.isDataL_mem hdata (List.mem_map.2 ⟨p, hp, rfl⟩)
                rw [hd] at this; simp [AV.isData] at this
              · rw [hd]
            have hmm : (parts.toList.map fun p => (p.1, st.ev p.2)).map (·.2) = parts.toList.map fun p => st.ev p.2 := by simp
            unfold St.buildSlice at hb
            split at hb
            · rename_i hc
              rw [hmm, toDataEs_data hdata] at hb
              simp only at hb
              split at hb
              · rename_i hall
                cases hb
                have hno' : look id S.objs = none := hno (id, _) (List.mem_cons_self)
                have hge := get_none h hno'
                obtain ⟨g1, g2⟩ := renew_look h hge (.row true el te.size (parts.toList.map fun p => st.ev p.2))
                exact main S rd a w e h id _ hno' rfl (fun _ => .inr trivial) (S.renew id (.row true el te.size (parts.toList.map fun p => st.ev p.2))) (by
                  simp only [evalW0, ho, ht, hid, hte, hparts, St.buildSlice]
                  rw [if_pos hc, hmm, toDataEs_data hdata]
                  simp only
                  rw [if_pos hall]) g1 g2 next Q hn
              · cases hb
            · cases hb
          · cases hr
        · cases hr
      · cases hr
    · cases hr
  · cases hr

/-- a call whose result is known -/
theorem QStep.call {o : Oper} {f : Operand} {args : Array Operand} {tys : Array TypeId} (ho : o.op = .call { callee := .value f, args, argTypes := tys }) {st : St} {g : FuncId} {caps : List AV} (hf : st.callee f = some (g, caps)) {ps : List (Nat × Nat)} (hps : psOk ps = true) {ys : List AV} {b : Bool}
    (hsn : st.snaps ps (args.toList.map st.ev ++ caps) = some (ys, b)) {os : List (Nat × Obj)} (hos : st.objsFor ps ps = some os) {r0 : AV} {n0 : List (Nat × Obj)} (hc : ACalls P g ys os (fun r objs => r = r0 ∧ objs = n0)) {d : Nat} (hd2 : d < 1250)
    (hK : backOk ps d n0 = true ∧ freeNews b r0 n0 = true) (hall : (ps.all fun x => (look x.1 n0).isSome) = true) (hfr : ((newIds d n0).all fun id => (look id st.objs).isNone) = true) : QStep P o st (r0.ren (outName ps d)) (n0.map fun x => (outName ps d x.1, x.2.ren (outName ps d))) := by
  intro S rd a w e h hs hno next Q hn
  have hosS : S.objsFor ps ps = some os := by
    have aux : ∀ (l : List (Nat × Nat)) os, st.objsFor ps l = some os → S.objsFor ps l = some os := by
      intro l
      induction l with
      | nil => exact fun os h => h
      | cons x r ih =>
        obtain ⟨n, id⟩ := x
        intro os h
        simp only [St.objsFor] at h ⊢
        split at h
        · rename_i o os' h1 h2
          rw [hs.2 id o h1, ih os' h2]
          exact h
        · cases h
    exact aux ps os hos
  refine call_core ho hf hps hsn hosS hc hd2 (fun r objs hR => by obtain ⟨rfl, rfl⟩ := hR; exact hK) (hs.view h) h fun r objs v w' e' hR h1 h2 h3 => ?_
  obtain ⟨rfl, rfl⟩ := hR
  have hkeys := hK.1
  simp only [backOk, Bool.and_eq_true, List.all_eq_true, Bool.or_eq_true, decide_eq_true_eq, Bool.not_eq_true', Bool.and_eq_false_iff, decide_eq_false_iff_not] at hkeys
  obtain ⟨hk1, hk2⟩ := hkeys
  have hslot : ∀ n id, look n ps = some id → ¬ (8 * d ≤ id ∧ id < 8 * d + 8) := fun n id hl => by have := hk2 _ (look_mem hl); simp only at this; omega
  have hpassed : ∀ n id, look n ps = some id → (look id S.objs).isSome = true := by
    intro n id hl
    have hg := (objsFor_get hosS n).1
    rw [hl] at hg
    have aux : ∀ (l : List (Nat × Nat)) os, S.objsFor ps l = some os → ∀ x ∈ l, (look x.2 S.objs).isSome = true := by
      intro l
      induction l with
      | nil => intro os _ x hx; simp at hx
      | cons y r ih =>
        obtain ⟨n', id'⟩ := y
        intro os h x hx
        simp only [St.objsFor] at h
        split at h
        · rename_i o os' h1' h2'
          rcases List.mem_cons.1 hx with rfl | hx
          · rw [h1']; rfl
          · exact ih os' h2' x hx
        · cases h
    exact aux ps os hosS _ (look_mem hl)
  have hkill : ∀ id ∈ newIds d objs, e.get id = none := fun id hid => by
    obtain ⟨n, q1, q2, rfl⟩ := mem_newIds.1 hid
    obtain ⟨o2, ho2⟩ := look_some_mem.1 q2
    have hln : look n ps = none := by
      cases hl : look n ps with
      | none => rfl
      | some id' => have := psOk_3 hps hl
                    have := hk1 _ ho2
                    simp only at this
                    omega
    have hon : outName ps d n = atSlot d n := by simp [outName, hln]
    rcases hno (outName ps d n, o2.ren (outName ps d)) (List.mem_map.2 ⟨_, ho2, rfl⟩) with h4 | h4
    · simp only at h4
      rw [hon] at h4
      simp only [List.all_eq_true] at hfr
      have := hfr _ hid
      rw [Option.isNone_iff_eq_none] at this
      rw [this] at h4; cases h4
    · simp only at h4
      rw [hon] at h4
      exact get_none h h4
  obtain ⟨g1, g2⟩ := killIds_look _ h hkill
  refine hn v w' e' (h1.congr (fun t => ?_) (fun j => ?_) (by rw [← h1.size, h.size])) h2 h3
  · exact (g1 t).symm
  · show look j (_ ++ S.objs) = look j ((objs.map fun x => (outName ps d x.1, x.2.ren (outName ps d))) ++ delAll (ps.map (·.2)) (S.killIds (newIds d objs)).objs)
    rw [look_append, look_append, look_delAll, g2]
    split
    · rfl
    · rename_i hno2
      split
      · rename_i hmem
        -- what was handed over comes back
        exfalso
        obtain ⟨n, hn⟩ := findOld_mem hmem
        rw [look_back hps hslot _ hk1, hn] at hno2
        simp only [List.all_eq_true] at hall
        have := hall _ (look_mem (findOld_look (psOk_1 hps) hn))
        simp only at this
        obtain ⟨o2, ho2⟩ := Option.isSome_iff_exists.1 this
        simp only [ho2] at hno2; cases hno2
      · rfl
#print axioms QStep.call
end
end Go.Sim
