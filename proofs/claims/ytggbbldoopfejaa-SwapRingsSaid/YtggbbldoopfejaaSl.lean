/- How a function ends; weakening of states; running operations as far as they go. -/
import Derived.Test.YtggbbldoopfejaaSk
import Derived.RangeFuncRecord
namespace Go.Sim
open Go.RowKit
section
variable {P : Program} {Γ : TypeId → Option TI}

/-! ### what may be said less -/
theorem Le.kill {st : St} {l : List Nat} (h : ∀ id ∈ l, unp id = true) : Le st (st.killIds l) := fun _ _ _ hc => let ⟨e', h1, h2, _, _, _⟩ := kill_conc hc l h; ⟨e', h1, h2⟩
theorem Le.freeze {st st' : St} {id : Nat} (h : st.freeze id = some st') : Le st st' := fun _ _ _ hc => let ⟨h1, h2, _⟩ := hc.freeze h; ⟨_, h1, h2⟩
theorem Le.less {st : St} (tm : List (Nat × AV)) (h : ∀ t x, look t tm = some x → look t st.tmps = some x) : Le st { st with tmps := tm } := fun _ w e hc => ⟨e, hc.less tm h, Fr.refl w e⟩

/-- every entry of the list is known -/
def holdsT (tm : List (Nat × AV)) : List (Nat × AV) → Prop
  | [] => True
  | (t, x) :: r => look t tm = some x ∧ holdsT tm r
theorem holdsT_look {tm : List (Nat × AV)} : ∀ {l : List (Nat × AV)}, holdsT tm l → ∀ t x, look t l = some x → look t tm = some x
  | (k, y) :: r, h, t, x, hx => by
    simp only [look] at hx
    split at hx
    · rename_i hk; subst hk; cases hx; exact h.1
    · exact holdsT_look h.2 t x hx

/-- a nil slice in a slot, seen as an empty slice of its own -/
def St.ownNil (st : St) (t id : Nat) (ty : TypeId) (sz : Nat) : St :=
  let s := st.renew id (.row true ty sz [])
  { s with tmps := upd t (.own id 0 0) s.tmps }
theorem Le.ownNil {st : St} {t id : Nat} {ty : TypeId} {sz : Nat} (hu : unp id = true) (h : look t st.tmps = some (.val (.slice none 0 0))) : Le st (st.ownNil t id ty sz) := by
  intro a w e hc
  obtain ⟨c1, f1⟩ := hc.phantom id hu ty sz
  obtain ⟨v, hv, hr⟩ := hc.tmp t _ h
  obtain rfl := hr.val_inv
  refine ⟨_, ⟨c1.sim, c1.defers, c1.size, fun s x hx => ?_⟩, f1⟩
  simp only [St.ownNil, look_upd] at hx
  by_cases hs : t = s
  · subst hs
    rw [if_pos rfl] at hx; cases hx
    exact ⟨_, hv, .own0 id (mt none 0 sz) (by simp [Env.set]) rfl none⟩
  · rw [if_neg hs] at hx
    exact c1.tmp s x hx

/-- a slice in a slot, seen as data where nothing of it is written any more: nil is empty data -/
theorem Le.immNil {st : St} {t : Nat} (h : look t st.tmps = some (.val (.slice none 0 0))) : Le st { st with tmps := upd t (.imm []) st.tmps } := by
  intro a w e hc
  obtain ⟨v, hv, hr⟩ := hc.tmp t _ h
  obtain rfl := hr.val_inv
  refine ⟨e, ⟨hc.sim, hc.defers, hc.size, fun s x hx => ?_⟩, Fr.refl w e⟩
  simp only [look_upd] at hx
  by_cases hs : t = s
  · subst hs
    rw [if_pos rfl] at hx; cases hx
    exact ⟨_, hv, .data (.imm0 none 0)⟩
  · rw [if_neg hs] at hx
    exact hc.tmp s x hx

/-! ### the end of a function -/
def expObjs (ρ : Nat → Nat) (objs : List (Nat × Obj)) : List (Nat × Nat) → List (Nat × Obj)
  | [] => []
  | (n, old) :: r => match look old objs with
    | some o => (n, o.ren ρ) :: expObjs ρ objs r
    | none => expObjs ρ objs r
/-- the names are well chosen: keys and elder names once each; what was handed in keeps its name; nothing else is left -/
def expOk (ks : List (Nat × Nat)) (objs : List (Nat × Obj)) : Bool :=
  distinct (ks.map (·.1)) && distinct (ks.map (·.2)) && ks.all (fun x => (unp x.1 && unp x.2) || x.1 == x.2) && objs.all (fun x => (ks.map (·.2)).contains x.1)

theorem look_expObjs (ρ : Nat → Nat) (objs : List (Nat × Obj)) : ∀ {ks : List (Nat × Nat)}, distinct (ks.map (·.1)) = true → ∀ j, look j (expObjs ρ objs ks) = ((look j ks).bind fun old => look old objs).map (Obj.ren ρ)
  | [], _, j => rfl
  | (n, old) :: r, hd, j => by
    simp only [List.map_cons, distinct, Bool.and_eq_true, Bool.not_eq_true', List.contains_eq_mem, decide_eq_false_iff_not] at hd
    have ih := look_expObjs ρ objs hd.2 j
    have hno : n = j → look j r = none := by
      intro hn; subst hn
      cases hl : look n r with
      | none => rfl
      | some o => exact absurd (List.mem_map.2 ⟨_, look_mem hl, rfl⟩) hd.1
    simp only [expObjs]
    by_cases hn : n = j
    · have h0 := hno hn
      simp only [look, hn, if_true, Option.bind_some]
      cases hl : look old objs with
      | none => simp only [Option.map_none]; rw [ih, h0]; rfl
      | some o => simp [look]
    · simp only [look, if_neg hn]
      cases hl : look old objs with
      | none => exact ih
      | some o => simp only [look, if_neg hn]; exact ih

theorem distinct_inj : ∀ {ks : List (Nat × Nat)}, distinct (ks.map (·.2)) = true → ∀ i j o, look i ks = some o → look j ks = some o → i = j
  | (k, o') :: r, hd, i, j, o, h1, h2 => by
    simp only [List.map_cons, distinct, Bool.and_eq_true, Bool.not_eq_true', List.contains_eq_mem, decide_eq_false_iff_not] at hd
    simp only [look] at h1 h2
    split at h1 <;> split at h2
    · omega
    · cases h1; exact absurd (List.mem_map.2 ⟨_, look_mem h2, rfl⟩) hd.1
    · cases h2; exact absurd (List.mem_map.2 ⟨_, look_mem h1, rfl⟩) hd.1
    · exact distinct_inj hd.2 i j o h1 h2

/-- The state that is left, under the names by which it is handed back. -/
theorem export_sim {st : St} {a : Act} {w : World} {e : Env} (h : Conc st a w e) {ks : List (Nat × Nat)} (hk : expOk ks st.objs = true) {x : AV} {v : Value} (hx : Rd w e x v) :
    ∃ e', Sim w e' (expObjs (expName ks) st.objs ks) ∧ Fr w e w e' ∧ Rd w e' (x.ren (expName ks)) v := by
  simp only [expOk, Bool.and_eq_true, List.all_eq_true, Bool.or_eq_true, beq_iff_eq, List.contains_eq_mem, decide_eq_true_eq] at hk
  obtain ⟨⟨⟨k1, k2⟩, k3⟩, k4⟩ := hk
  let e' : Env := { get := fun j => (look j ks).bind e.get, pr := e.pr, bs := e.bs }
  have hlive : ∀ id m, e.get id = some m → ∃ n, findOld id ks = some n ∧ look n ks = some id := by
    intro id m hm
    have hd := h.sim.dom id
    rw [hm] at hd
    obtain ⟨o, ho⟩ := look_some_mem.1 hd.symm
    obtain ⟨n, hn⟩ := findOld_mem (k4 _ ho)
    exact ⟨n, hn, findOld_look k1 hn⟩
  have hg : ∀ id m, e.get id = some m → e'.get (expName ks id) = some m := by
    intro id m hm
    obtain ⟨n, h1, h2⟩ := hlive id m hm
    simp [e', expName, h1, h2, hm]
  have hown : ∀ b, e'.owned b → e.owned b := by
    rintro b ⟨j, m, hj, hb⟩
    simp only [e', Option.bind_eq_some_iff] at hj
    obtain ⟨o, _, hm⟩ := hj
    exact ⟨o, m, hm, hb⟩
  have hfr : Fr w e w e' := by
    refine ⟨rfl, rfl, rfl, Nat.le_refl _, fun _ _ _ => rfl, fun b ho _ => hown b ho, rfl, .of fun id hnu => ?_⟩
    show (look id ks).bind e.get = e.get id
    cases hl : look id ks with
    | some o =>
      rcases k3 _ (look_mem hl) with h3 | h3
      · simp only at h3; rw [hnu] at h3; simp at h3
      · simp only at h3; subst h3; rfl
    | none =>
      cases hm : e.get id with
      | none => rfl
      | some m =>
        obtain ⟨n, h3, h4⟩ := hlive id m hm
        rcases k3 _ (look_mem h4) with h5 | h5
        · simp only at h5; rw [hnu] at h5; simp at h5
        · simp only at h5; subst h5; rw [hl] at h4; cases h4
  have hq := hfr.q
  refine ⟨e', ⟨fun j => ?_, fun i j m m' b hi hj hb hb' => ?_, fun j o m ho hm => ?_, fun b hb => h.sim.prok b (hown b hb), h.sim.new⟩, hfr, hx.ren _ (fun id m _ hg' => ⟨m, hg id m hg', m.same_refl⟩) (.inl hq)⟩
  · rw [look_expObjs _ _ k1]
    simp only [e', Option.isSome_map]
    cases hl : look j ks with
    | none => rfl
    | some o => simpa using h.sim.dom o
  · simp only [e', Option.bind_eq_some_iff] at hi hj
    obtain ⟨o1, g1, g2⟩ := hi
    obtain ⟨o2, g3, g4⟩ := hj
    have := h.sim.inj o1 o2 m m' b g2 g4 hb hb'
    subst this
    exact distinct_inj k2 i j o1 g1 g3
  · rw [look_expObjs _ _ k1] at ho
    obtain ⟨o0, ho0, rfl⟩ := Option.map_eq_some_iff.1 ho
    simp only [Option.bind_eq_some_iff] at ho0
    obtain ⟨old, g1, g2⟩ := ho0
    simp only [e', Option.bind_eq_some_iff] at hm
    obtain ⟨old', g3, g4⟩ := hm
    rw [g1] at g3; cases g3
    exact (h.sim.obj old o0 m g2 g4).ren _ (fun id m _ hg' => ⟨m, hg id m hg', m.same_refl⟩) (.inl hq) (Nat.le_refl _) ⟨rfl, rfl, rfl⟩ (fun _ _ => rfl)

/-- the results are read, then less is said (objects let go, frozen), and what is left is handed back under its names -/
def Done (Γ : TypeId → Option TI) (rs : List ResultVar) (R : AV → List (Nat × Obj) → Prop) (st : St) : Prop :=
  ∃ x st1 y ks, resultsA Γ st rs = some x ∧ Le ⟨1, [(0, x)], st.objs⟩ st1 ∧ look 0 st1.tmps = some y ∧ expOk ks st1.objs = true ∧ R (y.ren (expName ks)) (expObjs (expName ks) st1.objs ks)

def EndQ (Γ : TypeId → Option TI) (rs : List ResultVar) (R : AV → List (Nat × Obj) → Prop) : Exit → St → Prop
  | .normal, st => Done Γ rs R st
  | .ret, st => Done Γ rs R st
  | _, _ => False

theorem ACalls.of_W [M : Mode] (hΓ : TOk P Γ) {f : FuncId} {fn : Func} {c : Code} (hf : P.funcs[f]? = some fn) (hb : fn.body = some c) (hnm : (fn.name == "runtime.NumGoroutine") = false) {args : List AV} {objs : List (Nat × Obj)} {R : AV → List (Nat × Obj) → Prop}
    (hn : args.length ≤ fn.ntmps) (h : W P c (St.enter fn.ntmps args objs) (EndQ Γ fn.results.toList R)) : ACalls P f args objs R := by
  refine ⟨⟨fn, hf, hnm, by simp [hb]⟩, fun w e vals hs hv hr => ?_⟩
  rw [← callsIn_wide (n := 0)]
  refine callsIn_of_wp_marks hf hb trivial ?_
  let e0 : Env := { e with bs := w.heap.size }
  have hq0 : ∀ b, e.q b → b < w.heap.size → w.heap[b]? = w.heap[b]? ∧ e0.q b := fun b h _ => ⟨rfl, h⟩
  have hs0 : Sim w e0 objs := ⟨hs.dom, hs.inj, fun id o m ho hm => by
    have := (hs.obj id o m ho hm).ren (e' := e0) (fun i => i) (fun id m _ hg => ⟨m, hg, m.same_refl⟩) (.inl hq0) (Nat.le_refl _) ⟨rfl, rfl, rfl⟩ (fun _ _ => rfl)
    rwa [men_ren_id] at this, hs.prok, hs.new⟩
  have hc : Conc (St.enter fn.ntmps args objs) { tmps := vals ++ Array.replicate (fn.ntmps - vals.size) undef, defers := [] } w e0 := by
    refine ⟨hs0, Marks.nil (Nat.le_refl _), by simp [St.enter, hv]; omega, fun t x hx => ?_⟩
    obtain ⟨_, hx'⟩ := look_enumA args 0 t x hx
    rw [Nat.sub_zero] at hx'
    have ht : t < vals.size := by rw [hv]; exact (List.getElem?_eq_some_iff.1 hx').1
    exact ⟨vals[t], by rw [Array.getElem?_append_left ht, Array.getElem?_eq_getElem ht], (hr t x _ hx' (Array.getElem?_eq_getElem ht)).evolve hq0 (fun _ _ => rfl)⟩
  -- the marks are taken away, one after the other
  have leave : ∀ (ds : List Deferred) (w1 w' : World) (e' : Env) (st1 : St) (tmps : Array Value) (x : AV), Marks w' e' ds → Conc st1 { tmps := tmps, defers := [] } w' e' → Fr w e0 w' e' →
      resultsA Γ st1 fn.results.toList = some x → ∀ st2 y ks, Le ⟨1, [(0, x)], st1.objs⟩ st2 → look 0 st2.tmps = some y → expOk ks st2.objs = true → R (y.ren (expName ks)) (expObjs (expName ks) st2.objs ks) →
      LeavesInM Fence.wide 0 P fn tmps (fun en w' => ∃ v res objs' e', en = .returned v ∧ R res objs' ∧ Sim w' e' objs' ∧ Fr w e w' e' ∧ Rd w' e' res v) ds .returning w' := by
    intro ds
    induction ds with
    | nil =>
      intro w1 w' e' st1 tmps x _ hc' hf' hres st2 y ks hle hy hok hR
      obtain ⟨v, h1, h2⟩ := run_resultsA hΓ hc' hres
      have hcx : Conc ⟨1, [(0, x)], st1.objs⟩ { tmps := #[v], defers := [] } w' e' := by
        refine ⟨hc'.sim, Marks.nil hc'.defers.1.2, rfl, fun t z hz => ?_⟩
        simp only [look] at hz
        split at hz
        · rename_i ht; subst ht; cases hz; exact ⟨v, rfl, h2⟩
        · cases hz
      obtain ⟨e1, c1, f1⟩ := hle _ _ _ hcx
      obtain ⟨v', hv', h3⟩ := c1.tmp 0 y hy
      have hvv : v' = v := by simpa using hv'.symm
      subst hvv
      obtain ⟨e2, s2, f2, r2⟩ := export_sim c1 hok h3
      have f3 := (hf'.trans f1).trans f2
      let e3 : Env := { e2 with bs := e.bs }
      have hq3 : ∀ b, e2.q b → b < w'.heap.size → w'.heap[b]? = w'.heap[b]? ∧ e3.q b := fun b h _ => ⟨rfl, h⟩
      refine ⟨v', h1, v', _, _, e3, rfl, hR, ⟨s2.dom, s2.inj, fun id o m ho hm => ?_, s2.prok, s2.new⟩, ⟨f3.os, f3.tape, f3.output, f3.size, f3.blk, f3.own, ?_, ⟨f3.pins.pin, f3.pins.ext⟩⟩, r2.evolve hq3 (fun _ _ => rfl)⟩
      · have := (s2.obj id o m ho hm).ren (e' := e3) (fun i => i) (fun id m _ hg => ⟨m, hg, m.same_refl⟩) (.inl hq3) (Nat.le_refl _) ⟨rfl, rfl, rfl⟩ (fun _ _ => rfl)
        rwa [men_ren_id] at this
      · show (e2.pr, e.bs) = (e.pr, e.bs)
        rw [f3.pr]
    | cons d ds ih =>
      intro w1 w' e' st1 tmps x hm hc' hf' hres st2 y ks hle hy hok hR
      obtain ⟨D, hd, hD, hno, hbs⟩ := hm.2 d (by simp)
      have hlt : D < w'.heap.size := (Array.getElem?_eq_some_iff.1 hD).1
      have hDw : w.heap.size ≤ D := by rw [hf'.bs] at hbs; exact hbs
      let w2 : World := w'.putObj D (.deferred none)
      have hother : ∀ b, b ≠ D → w2.heap[b]? = w'.heap[b]? := fun b hb => World.putObj_heap_other hb
      have hcell : ∀ b, CellIn w' b → w2.heap[b]? = w'.heap[b]? := fun b ⟨o, v, hv⟩ => hother b (fun he => by
        subst he
        simp [World.cell?, hD] at hv)
      have hobj : ∀ m b, (∃ id, e'.get id = some m) → m.has b → w2.heap[b]? = w'.heap[b]? := fun m b ⟨id, hg⟩ hb => hother b (fun he => hno (by subst he; exact ⟨id, m, hg, hb⟩))
      have hc2 : Conc st1 { tmps := tmps, defers := [] } w2 e' := by
        refine ⟨⟨hc'.sim.dom, hc'.sim.inj, fun id o m ho hg => (hc'.sim.obj id o m ho hg).quiet hcell (fun b hb => hobj m b ⟨id, hg⟩ hb) (by simp [w2]) ⟨rfl, rfl, rfl⟩, hc'.sim.prok, fun b hb => hc'.sim.new b (by simpa [w2] using hb)⟩, Marks.nil (by simpa [w2] using hc'.defers.1.2), hc'.size, fun t x hx => ?_⟩
        obtain ⟨v, hv, hr⟩ := hc'.tmp t x hx
        exact ⟨v, hv, hr.evolve' (fun b hq hb => ⟨hcell b hb, hq⟩) (fun _ _ => rfl)⟩
      have hf2 : Fr w e0 w2 e' := ⟨hf'.os, hf'.tape, hf'.output, by simpa [w2] using hf'.size, fun b hb hn => (hother b (by omega)).trans (hf'.blk b hb hn), hf'.own, hf'.prb, hf'.pins⟩
      refine ⟨by simp, .inl ⟨D, w2, by rw [hd], ?_, ih w1 w2 e' st1 tmps x ?_ hc2 hf2 hres st2 y ks hle hy hok hR⟩⟩
      · exact run_takeDeferred hD
      · have hnd := List.nodup_cons.1 hm.1.1
        refine ⟨⟨hnd.2, by simpa [w2] using hm.1.2⟩, fun d' hd' => ?_⟩
        obtain ⟨D', q1, q2, q3, q4⟩ := hm.2 d' (by simp [hd'])
        by_cases hDD : D' = D
        · exfalso
          subst hDD
          rw [← hd] at q1
          subst q1
          exact hnd.1 hd'
        · exact ⟨D', q1, by rw [hother D' hDD]; exact q2, q3, q4⟩
  have h0 := h M.out _ w e0 hc
  rw [M.hout] at h0
  refine wpIn_mono h0 ?_
  rintro ex a' w' ⟨st', e', g1, g2, g3⟩
  have key : Done Γ fn.results.toList R st' → LeavesInM Fence.wide 0 P fn a'.tmps (fun en w' => ∃ v res objs' e', en = .returned v ∧ R res objs' ∧ Sim w' e' objs' ∧ Fr w e w' e' ∧ Rd w' e' res v) a'.defers .returning w' := by
    rintro ⟨x, st2, y, ks, hres, hle, hy, hok, hR⟩
    exact leave a'.defers w' w' e' st' a'.tmps x g1.defers ⟨g1.sim, Marks.nil g1.defers.1.2, g1.size, g1.tmp⟩ g2 hres st2 y ks hle hy hok hR
  cases ex with
  | normal => exact key g3
  | ret => exact key g3
  | _ => exact g3.elim

/-! ### operations, as far as they go -/
noncomputable def runSeg (Γ : TypeId → Option TI) (ops : List Oper) : List Oper → St → List Oper × St
  | [], st => ([], st)
  | o :: r, st => match wantedA ops o st with
    | some true => match evalAll Γ o st with
      | some (x, st') => match dstOk o st with
        | true => runSeg Γ ops r (st'.put o.dst x)
        | false => (o :: r, st)
      | none => (o :: r, st)
    | some false => match dstOk o st with
      | true => runSeg Γ ops r (st.put o.dst .dead)
      | false => (o :: r, st)
    | none => (o :: r, st)

theorem WOps.seg (hΓ : TOk P Γ) {ops : List Oper} {K : St → Prop} : ∀ {l : List Oper} {st : St}, WOps P ops K (runSeg Γ ops l st).1 (runSeg Γ ops l st).2 → WOps P ops K l st
  | [], st, h => h
  | o :: r, st, h => by
    simp only [runSeg] at h
    split at h
    · rename_i hw
      split at h
      · rename_i x st' hev
        split at h
        · rename_i hd
          exact ⟨hd, true, hw, WOp.eval hΓ hev (WOps.seg hΓ h)⟩
        · exact h
      · exact h
    · rename_i hw
      split at h
      · rename_i hd
        exact ⟨hd, false, hw, _, .inl rfl, WOps.seg hΓ h⟩
      · exact h
    · exact h

theorem WOps.run (hΓ : TOk P Γ) {ops : List Oper} {K : St → Prop} {l l' : List Oper} {st st' : St} (hr : runSeg Γ ops l st = (l', st')) (h : WOps P ops K l' st') : WOps P ops K l st :=
  WOps.seg hΓ (by rw [hr]; exact h)
#print axioms ACalls.of_W
end
end Go.Sim
