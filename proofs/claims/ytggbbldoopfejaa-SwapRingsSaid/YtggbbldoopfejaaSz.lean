/- Ranges over functions: the statement. -/
import Derived.Test.YtggbbldoopfejaaSy
import Derived.RangeFuncRecord
set_option linter.unusedSimpArgs false
set_option linter.unnecessarySimpa false
namespace Go.Sim
open Go.RowKit
section
variable {P : Program} {Γ : TypeId → Option TI}

/-- a loop's record turns; nothing that is known speaks of it -/
theorem Conc.putLoop {st : St} {a : Act} {w : World} {e : Env} (h : Conc st a w e) {l : Nat} {r : Loop} (hl : w.heap[l]? = some (.loop r)) (hno : ¬ e.owned l) (r' : Loop) :
    Conc st a (w.putObj l (.loop r')) e ∧ ∀ x v, Rd w e x v → Rd (w.putObj l (.loop r')) e x v := by
  have hother : ∀ b, b ≠ l → (w.putObj l (.loop r')).heap[b]? = w.heap[b]? := fun b hb => World.putObj_heap_other hb
  have hcell : ∀ b, CellIn w b → (w.putObj l (.loop r')).heap[b]? = w.heap[b]? := fun b ⟨o, v, hv⟩ => hother b (fun he => by
    subst he
    simp [World.cell?, hl] at hv)
  have hr : ∀ x v, Rd w e x v → Rd (w.putObj l (.loop r')) e x v := fun x v hx => hx.evolve' (fun b hq hb => ⟨hcell b hb, hq⟩) (fun _ _ => rfl)
  refine ⟨⟨⟨h.sim.dom, h.sim.inj, fun id o m ho hg => (h.sim.obj id o m ho hg).quiet hcell (fun b hb => hother b (fun he => hno (by subst he; exact ⟨id, m, hg, hb⟩))) (by simp) ⟨rfl, rfl, rfl⟩, h.sim.prok, fun b hb => h.sim.new b (by simpa using hb)⟩,
    ⟨⟨h.defers.1.1, by simpa using h.defers.1.2⟩, fun d hd => ?_⟩, h.size, fun t x hx => ?_⟩, hr⟩
  · obtain ⟨D, h1, h2, h3, h4⟩ := h.defers.2 d hd
    exact ⟨D, h1, by rw [hother D (by intro he; subst he; rw [hl] at h2; cases h2)]; exact h2, h3, h4⟩
  · obtain ⟨v, hv, hx'⟩ := h.tmp t x hx
    exact ⟨v, hv, hr x v hx'⟩

/-- what holds of the ranging side while the function runs that is ranged over -/
structure RF (nt : Nat) (tm : List (Nat × AV)) (qs : List (Nat × Nat)) (tmps : Array Value) (w1 : World) (e1 : Env) (l D : Nat) (rec : Loop) (objs : List (Nat × Obj)) (w : World) (S : Nat → Prop) (e : Env) : Prop where
  conc : Conc ⟨nt, tm, objs⟩ { tmps := tmps, defers := [] } w e
  os : w.os = w1.os
  tape : w.tape = w1.tape
  output : w.output = w1.output
  size : w1.heap.size ≤ w.heap.size
  blk : ∀ b, b < w1.heap.size → ¬ e1.owned b → w.heap[b]? = w1.heap[b]?
  own : ∀ b, e.owned b → b < w1.heap.size → e1.owned b
  cov : ∀ b, b < w1.heap.size → ¬ e1.owned b → S b
  prS : ∀ b, b < w.heap.size → e.pr b → S b
  pr1 : ∀ b, e.pr b → e1.pr b
  hrec : w.heap[l]? = some (.loop rec)
  dfr : w.heap[D]? = some (.deferred (some []))
  Sl : S l
  SD : S D
  nl : ¬ e.owned l
  nD : ¬ e.owned D
  hl : w1.heap.size ≤ l
  hD : w1.heap.size ≤ D
  pin : ∀ n, 10000 ≤ n → n < 15000 → e.get n = (look n qs).bind e1.get

theorem RF.stab {nt : Nat} {tm : List (Nat × AV)} {qs : List (Nat × Nat)} {tmps : Array Value} {w1 : World} {e1 : Env} {l D : Nat} {rec : Loop} {objs : List (Nat × Obj)} (hnew : ∀ b, w1.heap.size ≤ b → e1.pr b) : Stab fun w S => ∃ e, RF nt tm qs tmps w1 e1 l D rec objs w S e := by
  rintro w w' S ⟨e, h⟩ hS hos hta hou hsz
  let e' : Env := { e with pr := fun b => (e.pr b ∧ b < w.heap.size) ∨ w'.heap.size ≤ b }
  have hlt : ∀ b, e.owned b → b < w.heap.size := fun b ⟨id, m, hm, hb⟩ => h.conc.sim.blk_lt hm hb
  have hkeep : ∀ b, b < w.heap.size → e.pr b → w'.heap[b]? = w.heap[b]? := fun b hb hp => hS b (h.prS b hb hp) hb
  have hq : ∀ b, e.q b → b < w.heap.size → w'.heap[b]? = w.heap[b]? ∧ e'.q b := fun b hb hb' => ⟨hkeep b hb' hb.1, .inl ⟨hb.1, hb'⟩, hb.2⟩
  have hin : ∀ b, S b → b < w.heap.size → w'.heap[b]? = w.heap[b]? := hS
  have hllt : l < w.heap.size := (Array.getElem?_eq_some_iff.1 h.hrec).1
  have hDlt : D < w.heap.size := (Array.getElem?_eq_some_iff.1 h.dfr).1
  refine ⟨e', ⟨⟨h.conc.sim.dom, h.conc.sim.inj, fun id o m ho hm => ?_, fun b hb => .inl ⟨h.conc.sim.prok b hb, hlt b hb⟩, fun b hb => .inr hb⟩, Marks.nil (Nat.le_trans h.conc.defers.1.2 hsz), h.conc.size, fun t x hx => ?_⟩,
    hos.trans h.os, hta.trans h.tape, hou.trans h.output, Nat.le_trans h.size hsz, fun b hb hn => (hin b (h.cov b hb hn) (Nat.lt_of_lt_of_le hb h.size)).trans (h.blk b hb hn), h.own, h.cov, fun b hb hp => ?_, fun b hp => ?_,
    by rw [hin l h.Sl hllt]; exact h.hrec, by rw [hin D h.SD hDlt]; exact h.dfr, h.Sl, h.SD, h.nl, h.nD, h.hl, h.hD, h.pin⟩
  · have := (h.conc.sim.obj id o m ho hm).ren (w' := w') (e' := e') (fun i => i) (fun id m _ hg => ⟨m, hg, m.same_refl⟩) (.inl hq) hsz ⟨hos, hta, hou⟩ (fun b hb => hkeep b (h.conc.sim.blk_lt hm hb) (h.conc.sim.prok b ⟨id, m, hm, hb⟩))
    rwa [men_ren_id] at this
  · obtain ⟨v, hv, hr⟩ := h.conc.tmp t x hx
    exact ⟨v, hv, hr.embed (fun id m _ hg => ⟨m, hg, m.same_refl⟩) hq⟩
  · rcases hp with ⟨hp, hb'⟩ | hp
    · exact h.prS b hb' hp
    · omega
  · rcases hp with ⟨hp, _⟩ | hp
    · exact h.pr1 b hp
    · exact hnew b (Nat.le_trans (Nat.le_trans h.size hsz) hp)

/-- how a round's body may be left: on to the next round, or by 'return', with what it leaves -/
def RoundQ (nt : Nat) (objsR : List (Nat × Obj)) (z : Option (List (Nat × Obj))) : Exit → St → Prop
  | .normal, s => z = none ∧ Le s ⟨nt, [], objsR⟩
  | .ret, s => ∃ oX, z = some oX ∧ Le s ⟨nt, [], oX⟩
  | _, _ => False

theorem RF.yield {nt : Nat} {tm : List (Nat × AV)} {qs : List (Nat × Nat)} {tmps : Array Value} {w1 : World} {e1 : Env} {l D : Nat} {fn : FuncId} {p : Nat} {assign body : Code} {objsR : List (Nat × Obj)} {z : Option (List (Nat × Obj))} {ty : TypeId} {vals : List Value}
    (hnew1 : ∀ b, w1.heap.size ≤ b → e1.pr b) (hown1 : ∀ b, e1.owned b → e1.pr b) (hp : p < nt) (h20 : look 20000 objsR = none) (hmen : ∀ t x, look t tm = some x → ∀ j, x.men j = true → 10000 ≤ j ∧ j < 15000)
    {rec0 : LoopState → Option Code → Loop} (hrec0 : rec0 = fun s pe => { state := s, pending := pe, fn, tmps, params := #[p], assign, body, defers := D })
    (hround : W (M := anyMode) P assign ⟨nt, (p, .own 20000 0 vals.length) :: del p tm, (20000, .row true ty 1 (vals.map AV.val)) :: objsR⟩ (fun x s => x = .normal ∧ W (M := anyMode) P body s (RoundQ nt objsR z))) :
    YieldOk P l (fun w S => ∃ e, RF nt tm qs tmps w1 e1 l D (rec0 .ready none) objsR w S e) ty vals
      (fun t J' => (z = none ∧ t = true ∧ J' = fun w S => ∃ e, RF nt tm qs tmps w1 e1 l D (rec0 .ready none) objsR w S e) ∨
        ∃ oX, z = some oX ∧ t = false ∧ J' = fun w S => ∃ e, RF nt tm qs tmps w1 e1 l D (rec0 .done (some .ret)) oX w S e) := by
  rintro w S g cap cur ⟨e, h⟩ hSlt hSl hSg hg hcs hlen hcap hcon
  have hglt : g < w.heap.size := (Array.getElem?_eq_some_iff.1 hg).1
  have hllt : l < w.heap.size := (Array.getElem?_eq_some_iff.1 h.hrec).1
  have hDlt : D < w.heap.size := (Array.getElem?_eq_some_iff.1 h.dfr).1
  have hgpr : ¬ e.pr g := fun hp => hSg (h.prS g hglt hp)
  have hlg : l ≠ g := fun he => hSg (he ▸ hSl)
  have hDg : D ≠ g := fun he => hSg (he ▸ h.SD)
  have hg1 : g < w1.heap.size → e1.owned g := fun h1 => Classical.byContradiction fun hn => hSg (h.cov g h1 hn)
  refine ⟨fn, tmps.setIfInBounds p (.slice (some ⟨g, 0, none⟩) vals.length cap), assign, body, ?_, ?_⟩
  · have := run_yield (P := P) (args := #[.slice (some ⟨g, 0, none⟩) vals.length cap]) h.hrec (by rw [hrec0]; rfl)
    rw [this, hrec0]
    simp
  -- the round's frame
  let mg : Mta := mt (some g) cap 1
  let er : Env := { e with get := fun j => if j = 20000 then some mg else e.get j, pr := fun b => e.pr b ∨ b = g }
  have hget : ∀ j, er.get j = if j = 20000 then some mg else e.get j := fun _ => rfl
  have he20 : e.get 20000 = none := by
    have := h.conc.sim.dom 20000
    rw [show look 20000 (⟨nt, tm, objsR⟩ : St).objs = none from h20] at this
    cases hm : e.get 20000 with
    | none => rfl
    | some m => rw [hm] at this; simp at this
  have hmgh : ∀ b, mg.has b → b = g := fun b hb => by have := Mta.has_mk.1 hb; cases this; rfl
  have hnog : ∀ j mj, e.get j = some mj → ¬ mj.has g := fun j mj hj hb => hgpr (h.conc.sim.prok g ⟨j, mj, hj, hb⟩)
  have hero : ∀ b, er.owned b → e.owned b ∨ b = g := by
    rintro b ⟨j, mj, hj, hb⟩
    rw [hget] at hj
    split at hj
    · cases hj; exact .inr (hmgh b hb)
    · exact .inl ⟨j, mj, hj, hb⟩
  have hqr : ∀ b, e.q b → er.q b := fun b hb => ⟨.inl hb.1, fun ho => by
    rcases hero b ho with h1 | h1
    · exact hb.2 h1
    · exact hgpr (h1 ▸ hb.1)⟩
  have hemb : ∀ id m, e.get id = some m → er.get id = some m := fun id m hm => by
    rw [hget, if_neg]
    · exact hm
    · intro he; subst he; rw [he20] at hm; cases hm
  have hcr : Conc ⟨nt, (p, .own 20000 0 vals.length) :: del p tm, (20000, .row true ty 1 (vals.map AV.val)) :: objsR⟩ { tmps := tmps.setIfInBounds p (.slice (some ⟨g, 0, none⟩) vals.length cap), defers := [] } w er := by
    refine ⟨⟨fun j => ?_, fun i j mi mj b hi hj hb hb' => ?_, fun j o m ho hm => ?_, fun b hb => ?_, fun b hb => .inl (h.conc.sim.new b hb)⟩, Marks.nil h.conc.defers.1.2, by simpa using h.conc.size, fun t x hx => ?_⟩
    · simp only [hget, look]
      by_cases h1 : 20000 = j
      · subst h1; simp
      · rw [if_neg (Ne.symm h1), if_neg h1]; exact h.conc.sim.dom j
    · rw [hget] at hi hj
      split at hi <;> split at hj
      · rename_i h1 h2; rw [h1, h2]
      · cases hi; obtain rfl := hmgh b hb; exact absurd hb' (hnog j mj hj)
      · cases hj; obtain rfl := hmgh b hb'; exact absurd hb (hnog i mi hi)
      · exact h.conc.sim.inj i j mi mj b hi hj hb hb'
    · simp only [look] at ho
      rw [hget] at hm
      by_cases h1 : 20000 = j
      · rw [if_pos h1] at ho; rw [if_pos h1.symm] at hm
        cases ho; cases hm
        refine ⟨rfl, by simpa using hlen, hcap, fun x hx => ?_, fun _ h => h, cur, hg, by rw [hcs]; show cap = cap * 1; omega, fun i x hx j y hy => ?_⟩
        · obtain ⟨v, _, rfl⟩ := List.mem_map.1 hx; rfl
        · rw [List.getElem?_map] at hx
          obtain ⟨v, hv, rfl⟩ := Option.map_eq_some_iff.1 hx
          obtain ⟨g1, g2⟩ := hcon i v hv
          have hj0 : j = 0 := by
            have := (List.getElem?_eq_some_iff.1 hy).1
            simp [AV.cells] at this; exact this
          subst hj0
          have hyv : y = .val v := by simpa [AV.cells] using hy.symm
          subst hyv
          exact ⟨v, by simpa using g1, g2, by simp only [CellRd, if_true]; exact .val v⟩
      · rw [if_neg h1] at ho; rw [if_neg (Ne.symm h1)] at hm
        have := (h.conc.sim.obj j o m ho hm).ren (w' := w) (e' := er) (fun i => i) (fun id m _ hg => ⟨m, hemb id m hg, m.same_refl⟩) (.inl fun b hb _ => ⟨rfl, hqr b hb⟩) (Nat.le_refl _) ⟨rfl, rfl, rfl⟩ (fun _ _ => rfl)
        rwa [men_ren_id] at this
    · rcases hero b hb with h1 | h1
      · exact .inl (h.conc.sim.prok b h1)
      · exact .inr h1
    · have hsz : tmps.size = nt := h.conc.size
      simp only [look] at hx
      by_cases h1 : p = t
      · rw [if_pos h1] at hx
        cases hx
        subst h1
        refine ⟨.slice (some ⟨g, 0, none⟩) vals.length cap, by simp [Array.getElem?_setIfInBounds, hsz, hp], ?_⟩
        have := Rd.own (w := w) (e := er) 20000 0 vals.length mg g (by simp [hget]) rfl (by simpa [mg] using hlen)
        simpa [mg] using this
      · rw [if_neg h1, look_del, if_neg h1] at hx
        obtain ⟨v, hv, hr⟩ := h.conc.tmp t x hx
        exact ⟨v, by show (tmps.setIfInBounds p _)[t]? = some v; rw [Array.getElem?_setIfInBounds, if_neg h1]; exact hv, hr.embed (fun id m _ hg => ⟨m, hemb id m hg, m.same_refl⟩) (fun b hb _ => ⟨rfl, hqr b hb⟩)⟩
  have hnl : ¬ er.owned l := fun ho => by
    rcases hero l ho with h1 | h1
    · exact h.nl h1
    · exact hlg h1
  have hnD : ¬ er.owned D := fun ho => by
    rcases hero D ho with h1 | h1
    · exact h.nD h1
    · exact hDg h1
  refine roundIn_of_wpIn (F := Fence.wide) trivial ?_
  have hA := hround (some l) _ w er hcr
  refine wpIn_mono hA ?_
  rintro x a' w' ⟨s, e', c1, f1, rfl, hW⟩
  have hrec1 : w'.heap[l]? = some (.loop (rec0 .ready none)) := by rw [f1.blk l hllt hnl]; exact h.hrec
  have hnl1 : ¬ e'.owned l := fun ho => hnl (f1.own l ho hllt)
  have hnD1 : ¬ e'.owned D := fun ho => hnD (f1.own D ho hDlt)
  have hlw' : l < w'.heap.size := (Array.getElem?_eq_some_iff.1 hrec1).1
  obtain ⟨c2, t2⟩ := c1.putLoop hrec1 hnl1 { rec0 .ready none with state := .busy }
  refine ⟨_, run_beginRound hrec1 (by rw [hrec0]), ?_⟩
  generalize hw2 : w'.putObj l (.loop { rec0 .ready none with state := .busy }) = w2 at c2 t2
  have hw2l : w2.heap[l]? = some (.loop { rec0 .ready none with state := .busy }) := by rw [← hw2]; exact World.putObj_heap_same hlw'
  have hw2o : ∀ b, b ≠ l → w2.heap[b]? = w'.heap[b]? := fun b hb => by rw [← hw2]; exact World.putObj_heap_other hb
  have hw2s : w2.heap.size = w'.heap.size := by rw [← hw2]; simp
  have hw2w : w2.os = w'.os ∧ w2.tape = w'.tape ∧ w2.output = w'.output := by rw [← hw2]; exact ⟨rfl, rfl, rfl⟩
  refine wpIn_mono (hW (some l) a' w2 e' c2) ?_
  -- what is left when the round ends
  have fin : ∀ (s3 : St) (a3 : Act) (w3 : World) (e3 : Env) (objs' : List (Nat × Obj)) (jump : Option Code), Conc s3 a3 w3 e3 → Fr w2 e' w3 e3 → Le s3 ⟨nt, [], objs'⟩ →
      (Instr.endRound l jump).run P w3 = .ok (.bool jump.isNone) (w3.putObj l (.loop (rec0 (if jump.isNone then .ready else .done) jump))) ∧
      ∃ S', (∃ e4, RF nt tm qs tmps w1 e1 l D (rec0 (if jump.isNone then .ready else .done) jump) objs' (w3.putObj l (.loop (rec0 (if jump.isNone then .ready else .done) jump))) S' e4) ∧ S' l ∧
        (∀ b, S' b → b < (w3.putObj l (.loop (rec0 (if jump.isNone then .ready else .done) jump))).heap.size) ∧ (∀ b, S' b → b < w.heap.size → S b ∨ b = g) ∧ (w3.os = w.os ∧ w3.tape = w.tape ∧ w3.output = w.output) ∧ w.heap.size ≤ w3.heap.size ∧
        ∀ b, b < w.heap.size → ¬ S b → b ≠ g → w3.heap[b]? = w.heap[b]? := by
    intro s3 a3 w3 e3 objs' jump c3 f3 hle
    obtain ⟨e4, c4, f4⟩ := hle a3 w3 e3 c3
    have hl3 : w3.heap[l]? = some (.loop { rec0 .ready none with state := .busy }) := by rw [f3.blk l (by rw [hw2s]; exact hlw') hnl1]; exact hw2l
    have hnl3 : ¬ e4.owned l := fun ho => hnl1 (f3.own l (f4.own l ho (Array.getElem?_eq_some_iff.1 hl3).1) (by rw [hw2s]; exact hlw'))
    have hD' : D < w'.heap.size := Nat.lt_of_lt_of_le hDlt f1.size
    have hlD : D ≠ l := fun he => by have h1 := h.dfr; rw [he, h.hrec] at h1; cases h1
    have hD3 : w3.heap[D]? = some (.deferred (some [])) := by
      rw [f3.blk D (by rw [hw2s]; exact hD') hnD1, hw2o D hlD, f1.blk D hDlt hnD]; exact h.dfr
    have hnD3 : ¬ e4.owned D := fun ho => hnD1 (f3.own D (f4.own D ho (Array.getElem?_eq_some_iff.1 hD3).1) (by rw [hw2s]; exact hD'))
    have hend := run_endRound (P := P) jump hl3
    have hreq : ({ { rec0 .ready none with state := .busy } with state := if jump.isNone then .ready else .done, pending := jump } : Loop) = rec0 (if jump.isNone then .ready else .done) jump := by rw [hrec0]
    rw [hreq] at hend
    have hsz3 : w.heap.size ≤ w3.heap.size := Nat.le_trans f1.size (by rw [← hw2s]; exact f3.size)
    have hw : w3.os = w.os ∧ w3.tape = w.tape ∧ w3.output = w.output := ⟨f3.os.trans (hw2w.1.trans f1.os), f3.tape.trans (hw2w.2.1.trans f1.tape), f3.output.trans (hw2w.2.2.trans f1.output)⟩
    have hkeep : ∀ b, b < w.heap.size → b ≠ l → ¬ er.owned b → w3.heap[b]? = w.heap[b]? := fun b hb hbl hno => by
      have hb' : b < w'.heap.size := Nat.lt_of_lt_of_le hb f1.size
      rw [f3.blk b (by rw [hw2s]; exact hb') (fun ho => hno (f1.own b ho hb)), hw2o b hbl, f1.blk b hb hno]
    have hown4 : ∀ b, e4.owned b → b < w.heap.size → er.owned b := fun b ho hb =>
      f1.own b (f3.own b (f4.own b ho (Nat.lt_of_lt_of_le hb hsz3)) (by rw [hw2s]; exact Nat.lt_of_lt_of_le hb f1.size)) hb
    have hpr4 : e4.pr = er.pr := f4.pr.trans (f3.pr.trans f1.pr)
    obtain ⟨c5, t5⟩ := c4.putLoop hl3 hnl3 (rec0 (if jump.isNone then .ready else .done) jump)
    refine ⟨hend, fun b => b < w3.heap.size ∧ (S b ∨ b = g ∨ w.heap.size ≤ b), ⟨e4, ⟨⟨c5.sim, c5.defers.1 |> fun h => Marks.nil h.2, h.conc.size, fun t x hx => ?_⟩, hw.1.trans h.os, hw.2.1.trans h.tape, hw.2.2.trans h.output, by simpa using Nat.le_trans h.size hsz3, fun b hb hn => ?_, fun b ho hb => ?_, fun b hb hn => ?_, fun b hb hp => ?_, fun b hp => ?_, ?_, ?_, ?_, ?_, hnl3, hnD3, h.hl, h.hD, fun n n1 n2 => ?_⟩⟩, ?_, fun b hb => by simpa using hb.1, fun b hb hlt => ?_, hw, hsz3, fun b hb hS hbg => hkeep b hb (fun he => hS (he ▸ hSl)) (fun ho => ?_)⟩
    · obtain ⟨v, hv, hr⟩ := h.conc.tmp t x hx
      have hpin : ∀ {wa : World} {ea : Env} {wb : World} {eb : Env}, Fr wa ea wb eb → ∀ j, x.men j = true → eb.get j = ea.get j := fun hf j hj => hf.pin j (hmen t x hx j hj).1 (hmen t x hx j hj).2
      have r1 : Rd w er x v := hr.embed (fun id m _ hg => ⟨m, hemb id m hg, m.same_refl⟩) (fun b hb _ => ⟨rfl, hqr b hb⟩)
      exact ⟨v, hv, t5 _ _ (((t2 _ _ (r1.fr f1 (hpin f1))).fr f3 (hpin f3)).fr f4 (hpin f4))⟩
    · have hS := h.cov b hb hn
      have hbw : b < w.heap.size := Nat.lt_of_lt_of_le hb h.size
      rw [World.putObj_heap_other (by have := h.hl; omega), hkeep b hbw (by have := h.hl; omega) (fun ho => ?_)]
      · exact h.blk b hb hn
      · rcases hero b ho with h1 | h1
        · exact hn (h.own b h1 hb)
        · exact hSg (h1 ▸ hS)
    · rcases hero b (hown4 b ho (Nat.lt_of_lt_of_le hb h.size)) with h1 | h1
      · exact h.own b h1 hb
      · subst h1; exact hg1 hb
    · exact ⟨Nat.lt_of_lt_of_le (Nat.lt_of_lt_of_le hb h.size) hsz3, .inl (h.cov b hb hn)⟩
    · rw [hpr4] at hp
      refine ⟨by simpa using hb, ?_⟩
      rcases hp with hp | hp
      · rcases Nat.lt_or_ge b w.heap.size with h1 | h1
        · exact .inl (h.prS b h1 hp)
        · exact .inr (.inr h1)
      · exact .inr (.inl hp)
    · rw [hpr4] at hp
      rcases hp with hp | hp
      · exact h.pr1 b hp
      · subst hp
        rcases Nat.lt_or_ge b w1.heap.size with h1 | h1
        · exact hown1 b (hg1 h1)
        · exact hnew1 b h1
    · exact World.putObj_heap_same (Array.getElem?_eq_some_iff.1 hl3).1
    · rw [World.putObj_heap_other hlD]; exact hD3
    · exact ⟨(Array.getElem?_eq_some_iff.1 hl3).1, .inl hSl⟩
    · exact ⟨(Array.getElem?_eq_some_iff.1 hD3).1, .inl h.SD⟩
    · have q1 : er.get n = e.get n := by rw [hget, if_neg (by omega)]
      rw [f4.pin n n1 n2, f3.pin n n1 n2, f1.pin n n1 n2, q1]; exact h.pin n n1 n2
    · exact ⟨(Array.getElem?_eq_some_iff.1 hl3).1, .inl hSl⟩
    · rcases hb.2 with h1 | h1 | h1
      · exact .inl h1
      · exact .inr h1
      · omega
    · rcases hero b ho with h1 | h1
      · exact hS (h.prS b hb (h.conc.sim.prok b h1))
      · exact hbg h1
  rintro x3 a3 w3 ⟨s3, e3, c3, f3, hq⟩
  cases x3 with
  | normal =>
    obtain ⟨hz, hle⟩ := hq
    obtain ⟨q1, S', q2, q3, q4, q5, q6, q7, q8⟩ := fin s3 a3 w3 e3 objsR none c3 f3 hle
    refine ⟨_, _, q1, true, _, S', rfl, .inl ⟨hz, rfl, rfl⟩, q2, RF.stab hnew1, q3, q4, q5, q6.1, q6.2.1, q6.2.2, by simpa using q7, fun b hb hS hbg => ?_⟩
    rw [World.putObj_heap_other (show b ≠ l from fun he => hS (by subst he; exact hSl))]; exact q8 b hb hS hbg
  | ret =>
    obtain ⟨oX, hz, hle⟩ := hq
    obtain ⟨q1, S', q2, q3, q4, q5, q6, q7, q8⟩ := fin s3 a3 w3 e3 oX (some .ret) c3 f3 hle
    refine ⟨_, _, q1, false, _, S', rfl, .inr ⟨oX, hz, rfl, rfl⟩, q2, RF.stab hnew1, q3, q4, q5, q6.1, q6.2.1, q6.2.2, by simpa using q7, fun b hb hS hbg => ?_⟩
    rw [World.putObj_heap_other (show b ≠ l from fun he => hS (by subst he; exact hSl))]; exact q8 b hb hS hbg
  | exit id => exact hq.elim
  | goto t => exact hq.elim
  | panic c => exact hq.elim
  | outgrown => exact hq.elim
#print axioms RF.yield

/-! ### the statement -/
theorem look_head {α : Type} {t : Nat} {x : α} {r : List (Nat × α)} : look t ((t, x) :: r) = some x := by simp [look]
def capR (ps : List (Nat × Nat)) : List AV → Option (List AV)
  | [] => some []
  | .ptr id i o :: r => match findOld id ps, capR ps r with
    | some n, some ys => some (.ptr n i o :: ys)
    | _, _ => none
  | _ => none
def St.tmpsFor (st : St) (qs : List (Nat × Nat)) : List Nat → Option (List (Nat × AV))
  | [] => some []
  | t :: r => match look t st.tmps, St.tmpsFor st qs r with
    | some x, some tm => if x.named (qs.map (·.2)) then some ((t, x.ren (expName qs)) :: tm) else none
    | _, _ => none
def Obj.plain : Obj → Bool
  | .row false _ _ [.val _] => true
  | _ => false
def Obj.notExt : Obj → Bool
  | .ext _ _ => false
  | _ => true

theorem ObjOk.moveP {w w' : World} {e e' : Env} {m : Mta} {o : Obj} (h : ObjOk w e m o) (hp : o.plain = true) (hb : ∀ b, m.has b → w'.heap[b]? = w.heap[b]?) : ObjOk w' e' m o := by
  unfold Obj.plain at hp
  split at hp
  · rename_i ty sz v
    refine ⟨h.hsz, h.len, h.cap, h.cells, h.only, ?_⟩
    have hk := h.blk
    cases hmb : m.blk with
    | none => simpa [hmb] using hk
    | some b =>
      simp only [hmb] at hk ⊢
      obtain ⟨cur, h1, h2, h3⟩ := hk
      refine ⟨cur, by rw [hb b (.inl hmb)]; exact h1, h2, fun i x hx j y hy => ?_⟩
      obtain ⟨u, g1, g2, g3⟩ := h3 i x hx j y hy
      have hx' : x = .val v := by
        have := List.mem_of_getElem? hx
        simpa using this
      subst hx'
      have hy' : y = .val v := by
        have := List.mem_of_getElem? hy
        simpa [AV.cells] using this
      subst hy'
      refine ⟨u, g1, g2, ?_⟩
      simp only [CellRd, Bool.false_eq_true, if_false] at g3 ⊢
      obtain rfl := g3.val_inv
      exact .data (.val _)
  · cases hp

theorem objsFor_named {st : St} {ps : List (Nat × Nat)} {n id j : Nat} {o : Obj} {os : List (Nat × Obj)} (hos : st.objsFor ps ps = some os) (p1 : look n ps = some id) (p2 : look id st.objs = some o) (hj : o.men j = true) : j ∈ ps.map (·.2) := by
  have hnm := (objsFor_get hos n).2 id o p1 p2
  cases o with
  | row dd ty sz els =>
    cases dd with
    | true => simp [Obj.men] at hj
    | false =>
      simp only [Obj.named, List.all_eq_true] at hnm
      simp only [Obj.men] at hj
      have : ∀ l : List AV, (∀ x ∈ l, AV.namedL (ps.map (·.2)) x.cells = true) → AV.menL j l = true → j ∈ ps.map (·.2) := by
        intro l
        induction l with
        | nil => intro _ hm; simp [AV.menL] at hm
        | cons x xs ih =>
          intro hall hm
          simp only [AV.menL, Bool.or_eq_true] at hm
          rcases hm with hm | hm
          · have hx := hall x (by simp)
            have hmx : AV.menL j x.cells = true := by
              cases x <;> first
                | (simp [AV.men] at hm; done)
                | (simpa [AV.cells, AV.menL, AV.men] using hm)
            exact AV.namedL_men x.cells hx hmx
          · exact ih (fun y hy => hall y (by simp [hy])) hm
      exact this els hnm hj
  | mp sh ents => simp [Obj.men] at hj
  | ext l J => simp [Obj.men] at hj
  | gone => simp [Obj.men] at hj
  | fix ty sz cap els => simp [Obj.men] at hj

/-- objects that are handed over are well where they are seen -/
theorem handed_obj {st : St} {w w' : World} {e e' : Env} (h : Sim w e st.objs) {ps : List (Nat × Nat)} (hps : psOk ps = true) {os : List (Nat × Obj)} (hos : st.objsFor ps ps = some os) (hget : ∀ n id, look n ps = some id → e'.get n = e.get id)
    (hq : ∀ b, e.q b → b < w.heap.size → w'.heap[b]? = w.heap[b]? ∧ e'.q b) (hsz : w.heap.size ≤ w'.heap.size) (hw : w'.os = w.os ∧ w'.tape = w.tape ∧ w'.output = w.output) (hb : ∀ b, e.owned b → w'.heap[b]? = w.heap[b]?) :
    ∀ n o m, look n os = some o → e'.get n = some m → ObjOk w' e' m o := by
  intro n o m ho hm
  rw [(objsFor_get hos n).1] at ho
  obtain ⟨o0, ho0, rfl⟩ := Option.map_eq_some_iff.1 ho
  simp only [Option.bind_eq_some_iff] at ho0
  obtain ⟨id, p1, p2⟩ := ho0
  have hm' : e.get id = some m := by rw [← hget n id p1]; exact hm
  refine (h.obj id o0 m p2 hm').ren _ (fun j mj hj hg => ?_) (.inl hq) hsz hw (fun b hb' => hb b ⟨id, m, hm', hb'⟩)
  obtain ⟨n', h1⟩ := findOld_mem (objsFor_named hos p1 p2 hj)
  exact ⟨mj, by rw [show expName ps j = n' from by simp [expName, h1], hget n' j (findOld_look (psOk_1 hps) h1)]; exact hg, mj.same_refl⟩

theorem tmpsFor_get {st : St} {qs : List (Nat × Nat)} : ∀ {L : List Nat} {tm : List (Nat × AV)}, st.tmpsFor qs L = some tm → ∀ t x, look t tm = some x → ∃ y, look t st.tmps = some y ∧ y.named (qs.map (·.2)) = true ∧ x = y.ren (expName qs)
  | [], tm, h, t, x, hx => by cases h; cases hx
  | k :: r, tm, h, t, x, hx => by
    simp only [St.tmpsFor] at h
    split at h
    · rename_i y tm' h1 h2
      split at h
      · rename_i hn
        cases h
        simp only [look] at hx
        split at hx
        · rename_i hk; subst hk; cases hx; exact ⟨y, h1, hn, rfl⟩
        · exact tmpsFor_get h2 t x hx
      · cases h
    · cases h

mutual
theorem AV.men_ren {ρ : Nat → Nat} {j : Nat} : ∀ (x : AV), (x.ren ρ).men j = true → ∃ i, x.men i = true ∧ ρ i = j
  | .own i _ _, h => ⟨i, by simp [AV.men], by simpa [AV.ren, AV.men] using h⟩
  | .ptr i _ _, h => ⟨i, by simp [AV.men], by simpa [AV.ren, AV.men] using h⟩
  | .map i, h => ⟨i, by simp [AV.men], by simpa [AV.ren, AV.men] using h⟩
  | .yld i, h => ⟨i, by simp [AV.men], by simpa [AV.ren, AV.men] using h⟩
  | .clo _ xs, h => by simp only [AV.men]; exact AV.menL_ren xs (by simpa [AV.ren, AV.men] using h)
  | .agg xs, h => by simp only [AV.men]; exact AV.menL_ren xs (by simpa [AV.ren, AV.men] using h)
  | .tup xs, h => by simp only [AV.men]; exact AV.menL_ren xs (by simpa [AV.ren, AV.men] using h)
  | .dead, h => by simp [AV.ren, AV.men] at h
  | .val _, h => by simp [AV.ren, AV.men] at h
  | .imm _, h => by simp [AV.ren, AV.men] at h
  | .iptr _, h => by simp [AV.ren, AV.men] at h
theorem AV.menL_ren {ρ : Nat → Nat} {j : Nat} : ∀ (xs : List AV), AV.menL j (AV.renL ρ xs) = true → ∃ i, AV.menL i xs = true ∧ ρ i = j
  | [], h => by simp [AV.renL, AV.menL] at h
  | x :: xs, h => by
    simp only [AV.renL, AV.menL, Bool.or_eq_true] at h
    rcases h with h | h
    · obtain ⟨i, h1, h2⟩ := AV.men_ren x h
      exact ⟨i, by simp [AV.menL, h1], h2⟩
    · obtain ⟨i, h1, h2⟩ := AV.menL_ren xs h
      exact ⟨i, by simp [AV.menL, h1], h2⟩
end

theorem capR_rd {ps : List (Nat × Nat)} (hps : psOk ps = true) {w w' : World} {e e' : Env} (hget : ∀ n id, look n ps = some id → e'.get n = e.get id) : ∀ {caps ys : List AV}, capR ps caps = some ys → ys.length = caps.length ∧ ∀ (i : Nat) (y : AV) (v : Value), ys[i]? = some y → (∀ x, caps[i]? = some x → Rd w e x v) → Rd w' e' y v
  | [], ys, h => by cases h; exact ⟨rfl, fun i y v hy => by simp at hy⟩
  | c :: r, ys, h => by
    cases c with
    | ptr id k o =>
      simp only [capR] at h
      split at h
      · rename_i n ys' h1 h2
        cases h
        obtain ⟨l1, l2⟩ := capR_rd hps (w := w) (w' := w') hget h2
        refine ⟨by simp [l1], fun i y v hy hx => ?_⟩
        cases i with
        | zero =>
          simp at hy; subst hy
          have hr := hx _ rfl
          have hg := hget n id (findOld_look (psOk_1 hps) h1)
          cases hr with
          | data hr => cases hr
          | ptr _ _ _ m b hm hb => exact .ptr n k o m b (by rw [hg]; exact hm) hb
          | ptrX _ _ _ m hm hgo a => exact .ptrX n k o m (by rw [hg]; exact hm) hgo a
        | succ i => exact l2 i y v (by simpa using hy) (fun x hx' => hx x (by simpa using hx'))
      · cases h
    | _ => simp [capR] at h

theorem not_owned_deferred {w : World} {e : Env} {objs : List (Nat × Obj)} (h : Sim w e objs) (hn : (objs.all fun x => x.2.notExt) = true) {D : Nat} (hD : w.heap[D]? = some (.deferred (some []))) : ¬ e.owned D := by
  rintro ⟨id, m, hm, hb⟩
  obtain ⟨o, ho⟩ := Option.isSome_iff_exists.1 (show (look id objs).isSome = true by rw [← h.dom, hm]; rfl)
  have hk := h.obj id o m ho hm
  have hne := List.all_eq_true.1 hn _ (look_mem ho)
  cases o with
  | row d ty sz els =>
    have hb' : m.blk = some D := hb.resolve_right (hk.only D)
    have := hk.blk
    simp only [hb'] at this
    obtain ⟨cur, h1, _⟩ := this
    rw [hD] at h1; cases h1
  | mp sh ents =>
    have hb' : m.blk = some D := hb.resolve_right (hk.only D)
    obtain ⟨b', es, clock, h1, h2, _⟩ := hk.blk
    rw [hb'] at h1; cases h1
    rw [hD] at h2; cases h2
  | ext l J => simp [Obj.notExt] at hne
  | gone => rcases hb with hb | hb
            · rw [hk.1.1] at hb; cases hb
            · exact hk.2 D hb
  | fix ty sz cap els =>
    have hb' : m.blk = some D := hb.resolve_right (hk.1.only D)
    have := hk.1.blk
    simp only [hb'] at this
    obtain ⟨cur, h1, _⟩ := this
    rw [hD] at h1; cases h1

theorem W.rangeFunc {g : Operand} {p : Nat} {assign body : Code} {st : St} {Q : Exit → St → Prop} {f : FuncId} {caps ys : List AV} (hg : st.callee g = some (f, caps))
    (ps qs : List (Nat × Nat)) (hpq : psOk (ps ++ qs) = true) (hps : psOk ps = true) (hqs : psOk qs = true) (hall : (st.objs.all fun x => ((ps ++ qs).map (·.2)).contains x.1) = true) (h199 : ((ps ++ qs).all fun x => x.1 != 19999) = true)
    (hcap : capR ps caps = some ys) {os objsR : List (Nat × Obj)} (hos : st.objsFor ps ps = some os) (hbox : (os.all fun x => x.2.plain) = true) (hoR : st.objsFor qs qs = some objsR) (L : List Nat) {tm : List (Nat × AV)} (htm : st.tmpsFor qs L = some tm) (hp : p < st.nt)
    (ty : TypeId) (V : List Value → Prop) (Z : List Value → Option (List (Nat × Obj)))
    (hround : ∀ vals, V vals → W (M := anyMode) P assign ⟨st.nt, (p, .own 20000 0 vals.length) :: del p tm, (20000, .row true ty 1 (vals.map AV.val)) :: objsR⟩ (fun x s => x = .normal ∧ W (M := anyMode) P body s (RoundQ st.nt objsR (Z vals))))
    (res : Option (List Value))
    (hcall : ∀ (l : Nat) (J0 : World → (Nat → Prop) → Prop) (JX : List Value → World → (Nat → Prop) → Prop), (∀ vals, V vals → YieldOk P l J0 ty vals (fun t J' => (Z vals = none ∧ t = true ∧ J' = J0) ∨ ∃ oX, Z vals = some oX ∧ t = false ∧ J' = JX vals)) →
      ACalls P f (.yld 19999 :: ys) ((19999, .ext l J0) :: os) (fun _ o => o = (19999, .ext l (match res with | none => J0 | some v => JX v)) :: os))
    (d : Nat) (hd : d < 1250)
    (hN : res = none → (backOk (ps ++ qs) d (os ++ objsR) && (objsR.all fun x => (look x.1 ps).isNone) && ((st.adopt (ps ++ qs) d (os ++ objsR)).objs.all fun x => x.2.notExt)) = true ∧ Q .normal (st.adopt (ps ++ qs) d (os ++ objsR)))
    (hX : ∀ v, res = some v → ∃ oX, Z v = some oX ∧ (backOk (ps ++ qs) d (os ++ oX) && (oX.all fun x => (look x.1 ps).isNone) && ((st.adopt (ps ++ qs) d (os ++ oX)).objs.all fun x => x.2.notExt)) = true ∧ Q .ret (st.adopt (ps ++ qs) d (os ++ oX))) :
    W (M := outMode) P (.rangeFunc g #[p] assign body) st Q := by
  intro rd a w e hc
  refine wpIn_rangeFunc ?_
  intro fn _
  obtain ⟨vs, hev, hvs, hvr⟩ := callee_rd hc.view hg
  obtain ⟨rec0, hrec0⟩ : ∃ rec0 : LoopState → Option Code → Loop, rec0 = fun s pe => { state := s, pending := pe, fn, tmps := a.tmps, params := #[p], assign, body, defers := w.heap.size } := ⟨_, rfl⟩
  obtain ⟨w2, hw2⟩ : ∃ w2, (w.alloc (.deferred (some []))).alloc (.loop (rec0 .ready none)) = w2 := ⟨_, rfl⟩
  have hL2 : w2.heap[w.heap.size + 1]? = some (.loop (rec0 .ready none)) := by
    rw [← hw2]; have := World.alloc_heap_new (w.alloc (.deferred (some []))) (.loop (rec0 .ready none)); rwa [World.size_alloc] at this
  have hD2 : w2.heap[w.heap.size]? = some (.deferred (some [])) := by
    rw [← hw2]; exact (heap_alloc_old _ _ _ (by simp)).trans (World.alloc_heap_new w _)
  have hs2 : w2.heap.size = w.heap.size + 2 := by rw [← hw2]; simp
  have ho2 : ∀ b, b < w.heap.size → w2.heap[b]? = w.heap[b]? := fun b hb => by
    rw [← hw2, heap_alloc_old _ _ _ (by simp; omega), heap_alloc_old _ _ _ hb]
  have hww : w2.os = w.os ∧ w2.tape = w.tape ∧ w2.output = w.output := by rw [← hw2]; exact ⟨rfl, rfl, rfl⟩
  have hlt : ∀ b, e.owned b → b < w.heap.size := fun b ⟨id, m, hm, hb⟩ => hc.sim.blk_lt hm hb
  have hsubO : ∀ b, e.subOwn ps b → e.owned b := fun b hb => subOwn_owned hb
  -- the ranging side
  let S0 : Nat → Prop := fun b => b < w2.heap.size ∧ ¬ e.subOwn ps b
  let eJ0 : Env := { get := fun n => (look n qs).bind e.get, pr := fun b => (e.pr b ∧ b < w.heap.size ∧ ¬ e.subOwn ps b) ∨ w2.heap.size ≤ b, bs := 0 }
  have hgJ : ∀ n id, look n qs = some id → eJ0.get n = e.get id := fun n id hl => by show (look n qs).bind e.get = _; rw [hl]; rfl
  have hoJ : ∀ b, eJ0.owned b → e.owned b := by
    rintro b ⟨n, m, hm, hb⟩
    simp only [eJ0, Option.bind_eq_some_iff] at hm
    obtain ⟨id, _, hm⟩ := hm
    exact ⟨id, m, hm, hb⟩
  have hdis : ∀ n, (look n ps).isSome = true → look n qs = none := fun n hn => by
    cases hl : look n qs with
    | none => rfl
    | some id =>
      exfalso
      have h1 := psOk_1 hpq
      obtain ⟨id', hl'⟩ := Option.isSome_iff_exists.1 hn
      have aux : ∀ l : List Nat, ∀ l' : List Nat, distinct (l ++ l') = true → ∀ x, x ∈ l → x ∈ l' → False := by
        intro l
        induction l with
        | nil => intro l' _ x hx; simp at hx
        | cons y ys ih =>
          intro l' hd x hx hx'
          simp only [List.cons_append, distinct, Bool.and_eq_true, Bool.not_eq_true', List.contains_eq_mem, decide_eq_false_iff_not, List.mem_append, not_or] at hd
          rcases List.mem_cons.1 hx with rfl | hx
          · exact hd.1.2 hx'
          · exact ih l' hd.2 x hx hx'
      rw [List.map_append] at h1
      exact aux _ _ h1 n (List.mem_map.2 ⟨_, look_mem hl', rfl⟩) (List.mem_map.2 ⟨_, look_mem hl, rfl⟩)
  have hdis2 : ∀ n n' id, look n ps = some id → look n' qs = some id → False := fun n n' id h1 h2 => by
    have h3 := psOk_2 hpq
    have aux : ∀ l : List Nat, ∀ l' : List Nat, distinct (l ++ l') = true → ∀ x, x ∈ l → x ∈ l' → False := by
      intro l
      induction l with
      | nil => intro l' _ x hx; simp at hx
      | cons y ys ih =>
        intro l' hd x hx hx'
        simp only [List.cons_append, distinct, Bool.and_eq_true, Bool.not_eq_true', List.contains_eq_mem, decide_eq_false_iff_not, List.mem_append, not_or] at hd
        rcases List.mem_cons.1 hx with rfl | hx
        · exact hd.1.2 hx'
        · exact ih l' hd.2 x hx hx'
    rw [List.map_append] at h3
    exact aux _ _ h3 id (List.mem_map.2 ⟨_, look_mem h1, rfl⟩) (List.mem_map.2 ⟨_, look_mem h2, rfl⟩)
  have hsubJ : ∀ b, eJ0.owned b → ¬ e.subOwn ps b := by
    rintro b ⟨n, m, hm, hb⟩ ⟨n', m', hm', hb'⟩
    simp only [eJ0, Option.bind_eq_some_iff] at hm
    simp only [Option.bind_eq_some_iff] at hm'
    obtain ⟨id, q1, q2⟩ := hm
    obtain ⟨id', q3, q4⟩ := hm'
    have := hc.sim.inj id id' m m' b q2 q4 hb hb'
    subst this
    exact hdis2 n' n id q3 q1
  have hqJ : ∀ b, e.q b → b < w.heap.size → w2.heap[b]? = w.heap[b]? ∧ eJ0.q b := fun b hb hb' => ⟨ho2 b hb', .inl ⟨hb.1, hb', fun h => hb.2 (hsubO b h)⟩, fun ho => hb.2 (hoJ b ho)⟩
  have hRF0 : RF st.nt tm qs a.tmps w e (w.heap.size + 1) w.heap.size (rec0 .ready none) objsR w2 S0 eJ0 := by
    refine ⟨⟨⟨fun n => ?_, fun i j m m' x hi hj hbi hbj => ?_, handed_obj hc.sim hqs hoR hgJ hqJ (by omega) hww (fun b hb => ho2 b (hlt b hb)), fun b hb => .inl ⟨hc.sim.prok b (hoJ b hb), hlt b (hoJ b hb), hsubJ b hb⟩, fun b hb => .inr hb⟩, Marks.nil (Nat.zero_le _), hc.size, fun t x hx => ?_⟩,
      hww.1, hww.2.1, hww.2.2, by omega, fun b hb _ => ho2 b hb, fun b hb _ => hoJ b hb, fun b hb hn => ⟨by omega, fun h => hn (hsubO b h)⟩, fun b hb hp => ?_, fun b hp => ?_, hL2, hD2, ⟨by omega, fun h => by have := hlt _ (hsubO _ h); omega⟩, ⟨by omega, fun h => by have := hlt _ (hsubO _ h); omega⟩,
      fun h => by have := hlt _ (hoJ _ h); omega, fun h => by have := hlt _ (hoJ _ h); omega, by omega, Nat.le_refl _, fun n _ _ => rfl⟩
    · rw [(objsFor_get hoR n).1]
      show ((look n qs).bind e.get).isSome = _
      rw [Option.isSome_map]
      cases look n qs with
      | none => rfl
      | some id => exact hc.sim.dom id
    · simp only [eJ0, Option.bind_eq_some_iff] at hi hj
      obtain ⟨i', p1, p2⟩ := hi
      obtain ⟨j', q1, q2⟩ := hj
      have := hc.sim.inj i' j' m m' x p2 q2 hbi hbj
      subst this
      have e1 := look_findOld (psOk_2 hqs) p1
      rw [look_findOld (psOk_2 hqs) q1] at e1
      cases e1; rfl
    · obtain ⟨y, hy, hny, rfl⟩ := tmpsFor_get htm t x hx
      obtain ⟨v, hv, hr⟩ := hc.tmp t y hy
      refine ⟨v, hv, hr.ren _ (fun id m hid hm => ?_) (.inl hqJ)⟩
      obtain ⟨n', h1⟩ := findOld_mem (AV.named_men y hny hid)
      exact ⟨m, by rw [show expName qs id = n' from by simp [expName, h1], hgJ n' id (findOld_look (psOk_1 hqs) h1)]; exact hm, m.same_refl⟩
    · rcases hp with ⟨_, h1, h2⟩ | h1
      · exact ⟨hb, h2⟩
      · omega
    · rcases hp with ⟨h1, _⟩ | h1
      · exact h1
      · exact hc.sim.new b (by omega)
  -- what is called
  have hmen : ∀ t x, look t tm = some x → ∀ j, x.men j = true → 10000 ≤ j ∧ j < 15000 := by
    intro t x hx j hj
    obtain ⟨y, hy, hny, rfl⟩ := tmpsFor_get htm t x hx
    obtain ⟨i, h1, rfl⟩ := AV.men_ren y hj
    obtain ⟨n', h2⟩ := findOld_mem (AV.named_men y hny h1)
    have h3 := findOld_look (psOk_1 hqs) h2
    rw [show expName qs i = n' from by simp [expName, h2]]
    rcases psOk_3 hqs h3 with h4 | h4
    · exact h4
    · have := List.all_eq_true.1 h199 (n', i) (List.mem_append_right _ (look_mem h3))
      simp [h4.1] at this
  have h20 : look 20000 objsR = none := by
    rw [(objsFor_get hoR 20000).1]
    cases hl : look 20000 qs with
    | none => rfl
    | some id => have := psOk_3 hqs hl; omega
  have hACl := hcall (w.heap.size + 1) (fun w' S => ∃ e', RF st.nt tm qs a.tmps w e (w.heap.size + 1) w.heap.size (rec0 .ready none) objsR w' S e')
    (fun vals w' S => ∃ e', RF st.nt tm qs a.tmps w e (w.heap.size + 1) w.heap.size (rec0 .done (some .ret)) ((Z vals).getD []) w' S e') (fun vals hV => by
      have := RF.yield (P := P) (l := w.heap.size + 1) (tmps := a.tmps) (qs := qs) (w1 := w) (e1 := e) hc.sim.new hc.sim.prok hp h20 hmen hrec0 (hround vals hV)
      intro w' S' g' cap' cur' k1 k2 k3 k4 k5 k6 k7 k8 k9
      obtain ⟨fn', tmps', as', bo', r1, r2⟩ := this w' S' g' cap' cur' k1 k2 k3 k4 k5 k6 k7 k8 k9
      refine ⟨fn', tmps', as', bo', r1, r2.mono ?_⟩
      rintro en w'' ⟨t, J', S'', q1, q2, q3⟩
      refine ⟨t, J', S'', q1, ?_, q3⟩
      rcases q2 with q2 | ⟨oX, z1, z2, z3⟩
      · exact .inl q2
      · exact .inr ⟨oX, z1, z2, by rw [z3, z1]; rfl⟩)
  let m19 : Mta := { blk := some (w.heap.size + 1), cap := 0, sz := 0, more := S0 }
  have hhas : m19.has = S0 := funext fun b => propext ⟨fun hb => by
    rcases hb with hb | hb
    · cases hb; exact hRF0.Sl
    · exact hb, fun hb => .inr hb⟩
  let ec : Env := { get := fun n => if n = 19999 then some m19 else (look n ps).bind e.get, pr := fun _ => True, bs := 0 }
  have hnps : look 19999 ps = none := by
    cases hl : look 19999 ps with
    | none => rfl
    | some id =>
      have := List.all_eq_true.1 h199 (19999, id) (List.mem_append_left _ (look_mem hl))
      simp at this
  have hpsr : ∀ n id, look n ps = some id → 10000 ≤ n ∧ n < 15000 := fun n id hl => by
    rcases psOk_3 hps hl with h4 | h4
    · exact h4
    · rw [h4.1, hnps] at hl; cases hl
  have hgc : ∀ n id, look n ps = some id → ec.get n = e.get id := fun n id hl => by
    show (if n = 19999 then some m19 else (look n ps).bind e.get) = _
    rw [if_neg (by have := hpsr n id hl; omega), hl]; rfl
  have hsim : Sim w2 ec ((19999, .ext (w.heap.size + 1) (fun w' S => ∃ e', RF st.nt tm qs a.tmps w e (w.heap.size + 1) w.heap.size (rec0 .ready none) objsR w' S e')) :: os) := by
    refine ⟨fun n => ?_, fun i j m m' x hi hj hbi hbj => ?_, fun n o m ho hm => ?_, fun _ _ => trivial, fun _ _ => trivial⟩
    · simp only [ec, look]
      by_cases h1 : 19999 = n
      · subst h1; simp
      · rw [if_neg (Ne.symm h1), if_neg h1, (objsFor_get hos n).1, Option.isSome_map]
        cases look n ps with
        | none => rfl
        | some id => exact hc.sim.dom id
    · simp only [ec] at hi hj
      split at hi <;> split at hj
      · rename_i h1 h2; rw [h1, h2]
      · cases hi
        simp only [Option.bind_eq_some_iff] at hj
        obtain ⟨j', q1, q2⟩ := hj
        rw [hhas] at hbi
        exact absurd ⟨j, m', by rw [q1]; exact q2, hbj⟩ hbi.2
      · cases hj
        simp only [Option.bind_eq_some_iff] at hi
        obtain ⟨j', q1, q2⟩ := hi
        rw [hhas] at hbj
        exact absurd ⟨i, m, by rw [q1]; exact q2, hbi⟩ hbj.2
      · simp only [Option.bind_eq_some_iff] at hi hj
        obtain ⟨i', p1, p2⟩ := hi
        obtain ⟨j', q1, q2⟩ := hj
        have := hc.sim.inj i' j' m m' x p2 q2 hbi hbj
        subst this
        have e1 := look_findOld (psOk_2 hps) p1
        rw [look_findOld (psOk_2 hps) q1] at e1
        cases e1; rfl
    · simp only [look] at ho
      simp only [ec] at hm
      by_cases h1 : 19999 = n
      · subst h1
        rw [if_pos rfl] at ho hm
        cases ho; cases hm
        exact ⟨rfl, fun b hb => by rw [hhas] at hb; exact hb.1, by rw [hhas]; exact ⟨eJ0, hRF0⟩, RF.stab hc.sim.new⟩
      · rw [if_neg h1] at ho; rw [if_neg (Ne.symm h1)] at hm
        have hgv : ∀ n id, look n ps = some id → (e.view ps false).get n = e.get id := fun n id hl => by show (look n ps).bind e.get = _; rw [hl]; rfl
        have := handed_obj hc.sim hps hos hgv (fun b hb hb' => ⟨ho2 b hb', view_q hc.sim.prok hb⟩) (by omega) hww (fun b hb => ho2 b (hlt b hb)) n o m ho hm
        exact this.moveP (List.all_eq_true.1 hbox _ (look_mem ho)) (fun _ _ => rfl)
  refine ⟨w.heap.size + 1, [{ target := .collected w.heap.size, args := #[] }], w2, { target := .fn (.func f) vs, args := #[.func (.yield (w.heap.size + 1)) #[] #[]] }, w2, f,
    #[.func (.yield (w.heap.size + 1)) #[] #[]] ++ vs, w2, ?_, ?_, fun _ _ => trivial, ?_, fun hd => by simp [FR] at hd, ?_⟩
  · rw [← hw2, hrec0]; exact run_enterLoop_outer _ _ _ _ _
  · simp only [resolve, hev]
    simp [go_sem]
  · obtain ⟨fn', h1, h2, h3⟩ := hACl.able
    have h2' : ¬ fn'.name = "runtime.NumGoroutine" := by simpa using h2
    have h3' : ¬ fn'.body = none := fun hb => by rw [hb] at h3; simp at h3
    simp [invoke, go_sem, callFunc, h1, h2', h3']
  obtain ⟨hyl, hyr⟩ := capR_rd hps (w := w) (w' := w2) hgc hcap
  refine callsIn_FR ((hACl.run w2 ec _ hsim (by simp [hvs, hyl, Nat.add_comm]) (fun i y v hy hv => ?_)).mono ?_)
  · cases i with
    | zero =>
      simp at hy; subst hy
      have hv0 : v = .func (.yield (w.heap.size + 1)) #[] #[] := by
        rw [Array.getElem?_append_left (by simp)] at hv
        simpa using hv.symm
      subst hv0
      exact .yld 19999 m19 _ (by simp [ec]) rfl
    | succ i =>
      have hy' : ys[i]? = some y := by simpa using hy
      have hv' : vs[i]? = some v := by
        rw [Array.getElem?_append_right (by simp)] at hv
        simpa using hv
      exact hyr i y v hy' (fun x hx => hvr i x v hx hv')
  -- the function has come back
  rintro en w3 ⟨v, r', objs', ec', rfl, rfl, hs', hf', _⟩
  obtain ⟨m', hm'⟩ := Option.isSome_iff_exists.1 (show (ec'.get 19999).isSome = true by rw [hs'.dom]; simp [look])
  have hsubA : ∀ b, e.owned b → e.subOwn (ps ++ qs) b := by
    rintro b ⟨id, m, hm, hb⟩
    have hd' := hc.sim.dom id
    rw [hm] at hd'
    obtain ⟨o, ho⟩ := look_some_mem.1 hd'.symm
    have := List.all_eq_true.1 hall _ ho
    obtain ⟨n, hn⟩ := findOld_mem (ks := ps ++ qs) (id := id) (by simpa using this)
    exact ⟨n, m, by rw [findOld_look (psOk_1 hpq) hn]; exact hm, hb⟩
  have hprA : ∀ b, e.pr b → (e.view (ps ++ qs) false).pr b := fun b hb => by
    by_cases ho : e.owned b
    · exact .inr (hsubA b ho)
    · exact .inl ⟨hb, ho⟩
  have hlapp : ∀ n, look n (ps ++ qs) = if (look n ps).isSome then look n ps else look n qs := fun n => by
    rw [look_append]; cases look n ps <;> rfl
  have key : ∀ (stt : LoopState) (jump : Option Code) (objsJ : List (Nat × Obj)) (eJ : Env), RF st.nt tm qs a.tmps w e (w.heap.size + 1) w.heap.size (rec0 stt jump) objsJ w3 m'.has eJ →
      (backOk (ps ++ qs) d (os ++ objsJ) && (objsJ.all fun x => (look x.1 ps).isNone) && ((st.adopt (ps ++ qs) d (os ++ objsJ)).objs.all fun x => x.2.notExt)) = true →
      ∃ e4, Conc (st.adopt (ps ++ qs) d (os ++ objsJ)) { a with defers := [{ target := .collected w.heap.size, args := #[] }] ++ a.defers } (w3.putObj (w.heap.size + 1) (.loop { rec0 stt jump with state := .exhausted })) e4 ∧
        Fr w e (w3.putObj (w.heap.size + 1) (.loop { rec0 stt jump with state := .exhausted })) e4 := by
    intro stt jump objsJ eJ hRF hok
    simp only [Bool.and_eq_true, List.all_eq_true, Option.isNone_iff_eq_none] at hok
    obtain ⟨⟨hback, hkeys⟩, hnx⟩ := hok
    have hl3 := hRF.hrec
    have hll : w.heap.size + 1 < w3.heap.size := (Array.getElem?_eq_some_iff.1 hl3).1
    obtain ⟨c4, _⟩ := hRF.conc.putLoop hl3 hRF.nl { rec0 stt jump with state := .exhausted }
    generalize hw4 : w3.putObj (w.heap.size + 1) (.loop { rec0 stt jump with state := .exhausted }) = w4 at c4 ⊢
    have h4o : ∀ b, b ≠ w.heap.size + 1 → w4.heap[b]? = w3.heap[b]? := fun b hb => by rw [← hw4]; exact World.putObj_heap_other hb
    have h4s : w4.heap.size = w3.heap.size := by rw [← hw4]; simp
    have h4w : w4.os = w3.os ∧ w4.tape = w3.tape ∧ w4.output = w3.output := by rw [← hw4]; exact ⟨rfl, rfl, rfl⟩
    let eb : Env := { get := fun n => if (look n ps).isSome then ec'.get n else eJ.get n, pr := (e.view (ps ++ qs) false).pr, bs := e.bs }
    have hpin : ∀ n id, look n ps = some id → ec'.get n = e.get id := fun n id hl => by
      obtain ⟨h1, h2⟩ := hpsr n id hl
      rw [hf'.pin n h1 h2, hgc n id hl]
    have hgb1 : ∀ n id, look n ps = some id → eb.get n = e.get id := fun n id hl => by
      show (if (look n ps).isSome then ec'.get n else eJ.get n) = _
      rw [hl]; exact hpin n id hl
    have hgb2 : ∀ n, look n ps = none → eb.get n = eJ.get n := fun n hl => by
      show (if (look n ps).isSome then ec'.get n else eJ.get n) = _
      rw [hl]; rfl
    have hkn : ∀ n, (look n objsJ).isSome = true → look n ps = none := fun n hn => by
      obtain ⟨o, ho⟩ := look_some_mem.1 hn
      exact hkeys _ ho
    have hJs : ∀ n m, eJ.get n = some m → look n ps = none := fun n m hm => hkn n (by have := hRF.conc.sim.dom n; rw [hm] at this; exact this.symm)
    -- the two sides share no block
    have hapart : ∀ n id m b, look n ps = some id → e.get id = some m → m.has b → ¬ (eJ.pr b ∧ b < w3.heap.size) := by
      rintro n id m b hl hm hb ⟨h1, h2⟩
      have h3 := hRF.prS b h2 h1
      have h4 := hs'.inj n 19999 m m' b (by rw [hpin n id hl]; exact hm) hm' hb h3
      have := hpsr n id hl
      omega
    have hbown : ∀ b, eb.owned b → (∃ n id m, look n ps = some id ∧ e.get id = some m ∧ m.has b) ∨ eJ.owned b := by
      rintro b ⟨n, m, hm, hb⟩
      cases hl : look n ps with
      | some id => rw [hgb1 n id hl] at hm; exact .inl ⟨n, id, m, hl, hm, hb⟩
      | none => rw [hgb2 n hl] at hm; exact .inr ⟨n, m, hm, hb⟩
    have hJlt : ∀ b, eJ.owned b → b < w3.heap.size := fun b ⟨id, m, hm, hb⟩ => hRF.conc.sim.blk_lt hm hb
    have hsA : ∀ n id m b, look n ps = some id → e.get id = some m → m.has b → e.subOwn (ps ++ qs) b := fun n id m b hl hm hb => ⟨n, m, by rw [hlapp, hl]; exact hm, hb⟩
    have hsimb : Sim w4 eb (os ++ objsJ) := by
      refine ⟨fun n => ?_, fun i j mi mj b hi hj hbi hbj => ?_, fun n o m ho hm => ?_, fun b hb => ?_, fun b hb => ?_⟩
      · rw [look_append, (objsFor_get hos n).1]
        cases hl : look n ps with
        | some id =>
          rw [hgb1 n id hl]
          simp only [Option.bind_some]
          have hd' := hc.sim.dom id
          cases hlo : look id st.objs with
          | some o => rw [hlo] at hd'; simpa using hd'
          | none =>
            rw [hlo] at hd'
            simp only [Option.map_none]
            rw [hd']
            cases hlj : look n objsJ with
            | none => rfl
            | some o => have := hkn n (by rw [hlj]; rfl); rw [hl] at this; cases this
        | none => rw [hgb2 n hl]; exact hRF.conc.sim.dom n
      · cases hli : look i ps with
        | some idi =>
          rw [hgb1 i idi hli] at hi
          cases hlj : look j ps with
          | some idj =>
            rw [hgb1 j idj hlj] at hj
            have := hc.sim.inj idi idj mi mj b hi hj hbi hbj
            subst this
            have e1 := look_findOld (psOk_2 hps) hli
            rw [look_findOld (psOk_2 hps) hlj] at e1
            cases e1; rfl
          | none =>
            rw [hgb2 j hlj] at hj
            have ho : eJ.owned b := ⟨j, mj, hj, hbj⟩
            exact absurd ⟨hRF.conc.sim.prok b ho, hJlt b ho⟩ (hapart i idi mi b hli hi hbi)
        | none =>
          rw [hgb2 i hli] at hi
          cases hlj : look j ps with
          | some idj =>
            rw [hgb1 j idj hlj] at hj
            have ho : eJ.owned b := ⟨i, mi, hi, hbi⟩
            exact absurd ⟨hRF.conc.sim.prok b ho, hJlt b ho⟩ (hapart j idj mj b hlj hj hbj)
          | none => rw [hgb2 j hlj] at hj; exact hRF.conc.sim.inj i j mi mj b hi hj hbi hbj
      · cases hl : look n ps with
        | some id =>
          have hec : ec'.get n = some m := by rw [hpin n id hl, ← hgb1 n id hl]; exact hm
          have hlo : look n os = some o := by
            rw [look_append] at ho
            cases hlo : look n os with
            | some o' => rw [hlo] at ho; exact ho
            | none =>
              rw [hlo] at ho
              have := hkn n (by rw [show look n objsJ = some o from ho]; rfl)
              rw [hl] at this; cases this
          have hne : ¬ 19999 = n := by have := hpsr n id hl; omega
          have h5 := hs'.obj n o m (by simp only [look]; rw [if_neg hne]; exact hlo) hec
          refine h5.moveP (List.all_eq_true.1 hbox _ (look_mem hlo)) (fun b hb => h4o b (fun he => ?_))
          subst he
          have hE : ExtOk w3 m' (w.heap.size + 1) _ := hs'.obj 19999 _ m' look_head hm'
          exact hne (hs'.inj n 19999 m m' _ hec hm' hb (.inl hE.blk)).symm
        | none =>
          rw [hgb2 n hl] at hm
          have hlo : look n objsJ = some o := by
            rw [look_append, (objsFor_get hos n).1, hl] at ho
            exact ho
          have := (c4.sim.obj n o m hlo hm).ren (w' := w4) (e' := eb) (fun i => i) (fun id mi _ hg => ⟨mi, by rw [hgb2 id (hJs id mi hg)]; exact hg, mi.same_refl⟩) (.inl fun b hb hlt' => ⟨rfl, hprA b (hRF.pr1 b hb.1), fun hob => ?_⟩) (Nat.le_refl _) ⟨rfl, rfl, rfl⟩ (fun _ _ => rfl)
          · rwa [men_ren_id] at this
          · rcases hbown b hob with ⟨n', id', m'', k1, k2, k3⟩ | k
            · exact hapart n' id' m'' b k1 k2 k3 ⟨hb.1, by rw [← h4s]; exact hlt'⟩
            · exact hb.2 k
      · rcases hbown b hb with ⟨n', id', m'', k1, k2, k3⟩ | k
        · exact .inr (hsA n' id' m'' b k1 k2 k3)
        · exact hprA b (hRF.pr1 b (hRF.conc.sim.prok b k))
      · have h5 : w.heap.size ≤ b := by have := hRF.size; omega
        exact .inl ⟨hc.sim.new b h5, fun ho => by have := hlt b ho; omega⟩
    have hfrb : Fr w (e.view (ps ++ qs) false) w4 eb := by
      refine ⟨h4w.1.trans hRF.os, h4w.2.1.trans hRF.tape, h4w.2.2.trans hRF.output, by rw [h4s]; exact hRF.size, fun b hb hn => ?_, fun b hb hlt' => ?_, rfl, ⟨fun n n1 n2 => ?_, fun m hm => ?_⟩⟩
      · rw [h4o b (by omega)]
        exact hRF.blk b hb (fun ho => hn (hsubA b ho))
      · rcases hbown b hb with ⟨n', id', m'', k1, k2, k3⟩ | k
        · exact hsA n' id' m'' b k1 k2 k3
        · exact hsubA b (hRF.own b k hlt')
      · show _ = (look n (ps ++ qs)).bind e.get
        cases hl : look n ps with
        | some id => rw [hgb1 n id hl, hlapp, hl]; rfl
        | none => rw [hgb2 n hl, hlapp, hl, hRF.pin n n1 n2]; rfl
      · exfalso
        have hm2 : (look 19999 (ps ++ qs)).bind e.get = some m := hm
        cases hl : look 19999 (ps ++ qs) with
        | none => rw [hl] at hm2; cases hm2
        | some id =>
          have := List.all_eq_true.1 h199 (19999, id) (look_mem hl)
          simp at this
    obtain ⟨e3, q1, q2, _⟩ := adopt_conc hc false hpq hd hback hsimb hfrb (r := .dead) (v := v) (.dead v) rfl
    have hD4 : w4.heap[w.heap.size]? = some (.deferred (some [])) := by rw [h4o _ (by omega)]; exact hRF.dfr
    refine ⟨e3, ⟨q1.sim, ⟨⟨List.nodup_cons.2 ⟨fun hmem => ?_, q1.defers.1.1⟩, q1.defers.1.2⟩, fun d' hd' => ?_⟩, q1.size, q1.tmp⟩, q2⟩
    · obtain ⟨D, g1, g2, _⟩ := hc.defers.2 _ hmem
      have hDD : D = w.heap.size := by cases g1; rfl
      subst hDD
      have := (Array.getElem?_eq_some_iff.1 g2).1
      omega
    · rcases List.mem_cons.1 hd' with rfl | hd'
      · exact ⟨w.heap.size, rfl, hD4, not_owned_deferred q1.sim (List.all_eq_true.2 fun x hx => hnx x hx) hD4, by rw [q2.bs]; exact hc.defers.1.2⟩
      · exact q1.defers.2 d' hd'
  have hE : ExtOk w3 m' (w.heap.size + 1) _ := hs'.obj 19999 _ m' look_head hm'
  have hJ := hE.holds
  cases hres : res with
  | none =>
    rw [hres] at hJ
    obtain ⟨eJ, hRF⟩ := hJ
    obtain ⟨hok, hQ⟩ := hN hres
    obtain ⟨e4, k1, k2⟩ := key .ready none objsR eJ hRF hok
    subst hrec0
    exact ⟨_, _, run_endLoop hRF.hrec (by simp), _, e4, k1, k2, hQ⟩
  | some vx =>
    rw [hres] at hJ
    obtain ⟨eJ, hRF⟩ := hJ
    obtain ⟨oX, hz, hok, hQ⟩ := hX vx hres
    rw [hz] at hRF
    obtain ⟨e4, k1, k2⟩ := key .done (some .ret) oX eJ hRF hok
    subst hrec0
    exact ⟨_, _, run_endLoop hRF.hrec (by simp), wpIn_ret ⟨_, e4, k1, k2, hQ⟩⟩
#print axioms W.rangeFunc
end
theorem Qnorm {Q : Exit → St → Prop} {x : Exit} {st st' : St} (h : st = st') (k : Q x st') : Q x st := by subst h; exact k
theorem YieldOk.mono {P : Program} {l : Nat} {J : World → (Nat → Prop) → Prop} {ty : TypeId} {vals : List Value} {R R' : Bool → (World → (Nat → Prop) → Prop) → Prop} (h : YieldOk P l J ty vals R) (hr : ∀ t J', R t J' → R' t J') : YieldOk P l J ty vals R' := by
  intro w S g cap cur k1 k2 k3 k4 k5 k6 k7 k8 k9
  obtain ⟨fn, tmps, as, bo, r1, r2⟩ := h w S g cap cur k1 k2 k3 k4 k5 k6 k7 k8 k9
  exact ⟨fn, tmps, as, bo, r1, r2.mono fun en w' ⟨t, J', S', q1, q2, q3⟩ => ⟨t, J', S', q1, hr _ _ q2, q3⟩⟩
attribute [simp] capR St.tmpsFor Obj.plain Obj.notExt
end Go.Sim
