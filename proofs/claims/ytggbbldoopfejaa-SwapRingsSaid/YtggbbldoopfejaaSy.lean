/- Ranges over functions: a call of yield. -/
import Derived.Test.YtggbbldoopfejaaSx
namespace Go.Sim
open Go.RowKit
section
variable {P : Program} {Γ : TypeId → Option TI}

/-- a statement that speaks of the world's blocks in S alone -/
def Stab (J : World → (Nat → Prop) → Prop) : Prop := ∀ (w w' : World) (S : Nat → Prop), J w S → (∀ b, S b → b < w.heap.size → w'.heap[b]? = w.heap[b]?) → w'.os = w.os → w'.tape = w.tape → w'.output = w.output → w.heap.size ≤ w'.heap.size → J w' S

/-- What a round does to whoever ranges, seen from him who calls yield with a row of his own: the row goes over to the ranging side. -/
def YieldOk (P : Program) (l : Nat) (J : World → (Nat → Prop) → Prop) (ty : TypeId) (vals : List Value) (R : Bool → (World → (Nat → Prop) → Prop) → Prop) : Prop :=
  ∀ (w : World) (S : Nat → Prop) (g cap : Nat) (cur : Array Value), J w S → (∀ b, S b → b < w.heap.size) → S l → ¬ S g → w.heap[g]? = some (.cells cur ty (0, 0)) → cur.size = cap → vals.length ≤ cap → cap ≤ maxLen →
    (∀ (i : Nat) (v : Value), vals[i]? = some v → cur[i]? = some v ∧ v.oneCell' = true) →
    ∃ fn tmps assign body, (Instr.yield l #[.slice (some ⟨g, 0, none⟩) vals.length cap]).run P w = .ok (.round l fn tmps assign body) w ∧
      RoundIn Fence.wide 0 P l fn tmps assign body w fun en w' => ∃ t J' S', en = .returned (.bool t) ∧ R t J' ∧ J' w' S' ∧ Stab J' ∧ S' l ∧
        (∀ b, S' b → b < w'.heap.size) ∧ (∀ b, S' b → b < w.heap.size → S b ∨ b = g) ∧ w'.os = w.os ∧ w'.tape = w.tape ∧ w'.output = w.output ∧ w.heap.size ≤ w'.heap.size ∧
        ∀ b, b < w.heap.size → ¬ S b → b ≠ g → w'.heap[b]? = w.heap[b]?

theorem roundIn_FR {rd : Option Nat} {l : Nat} {f : FuncId} {tmps : Array Value} {assign body : Code} {w : World} {R : Ending → World → Prop} (h : RoundIn Fence.wide 0 P l f tmps assign body w R) : RoundIn (FR rd) 0 P l f tmps assign body w R := by
  cases rd with
  | none => exact h
  | some l => exact h

theorem upon_yield {o : Oper} {f : Operand} {args : Array Operand} {tys : Array TypeId} (ho : o.op = .call { callee := .value f, args, argTypes := tys }) {a : Act} {l : Nat} (hf : a.eval f = .func (.yield l) #[] #[])
    {rd : Option Nat} {w : World} {next : Act → World → Prop} {Q : Exit → Act → World → Prop} {fn : FuncId} {tmps : Array Value} {assign body : Code} (hy : (Instr.yield l (args.map a.eval)).run P w = .ok (.round l fn tmps assign body) w)
    (h : RoundIn Fence.wide 0 P l fn tmps assign body w fun | .returned v, w'' => next (a.put o.dst v) w'' | .panicked chain, w'' => Q (.panic chain) a w'' | .outgrown, _ => LetsOut Q) : o.wpIn (FR rd) 0 P a w next Q := by
  refine ⟨fun _ _ => trivial, ?_⟩
  have hrun : (execOp a.eval o).run P w = .ok (.round l fn tmps assign body) w := by
    simp [execOp, ho, resolve, hf, Deferred.ofValue, invoke, hy]
  rw [semAt_ok hrun (by simp)]
  exact ⟨fun hd => by simp [FR] at hd, roundIn_FR h⟩

def St.yielded (st : St) (g l : Nat) (J : World → (Nat → Prop) → Prop) : St :=
  { st.turn g (AV.kill g) with objs := upd 19999 (.ext l J) (st.turn g (AV.kill g)).objs }

theorem WOp.yield {o : Oper} {f x : Operand} {tys : Array TypeId} (ho : o.op = .call { callee := .value f, args := #[x], argTypes := tys }) {st : St} {l g n : Nat} {J : World → (Nat → Prop) → Prop} {ty : TypeId} {vals : List Value} {R : Bool → (World → (Nat → Prop) → Prop) → Prop}
    (hf : st.ev f = .yld 19999) (hobj : look 19999 st.objs = some (.ext l J)) (hx : st.ev x = .own g 0 n) (hog : look g st.objs = some (.row true ty 1 (vals.map AV.val))) (hn : n = vals.length) (hn0 : 0 < n) (hu : unp g = true) (hy : YieldOk P l J ty vals R)
    {K : AV → St → Prop} (hK : ∀ t J', R t J' → K (.val (.bool t)) (st.yielded g l J')) : WOp P o st K := by
  intro rd a w e h next Q hnext
  -- the foreign object
  obtain ⟨m19, hm19⟩ := Option.isSome_iff_exists.1 (show (e.get 19999).isSome = true by rw [h.sim.dom, hobj]; rfl)
  have hE : ExtOk w m19 l J := h.sim.obj 19999 _ m19 hobj hm19
  have hrf := h.ev f
  rw [hf] at hrf
  have hfv : a.eval f = .func (.yield l) #[] #[] := by
    generalize a.eval f = vf at hrf ⊢
    cases hrf with
    | data hd => cases hd
    | yld _ m b hm hb =>
      rw [hm19] at hm; cases hm
      rw [hE.blk] at hb; cases hb; rfl
    | yldX _ m hm hg b =>
      rw [hm19] at hm; cases hm
      have := hE.blk; simp [hg.1] at this
  -- the row
  obtain ⟨mg, hmg⟩ := Option.isSome_iff_exists.1 (show (e.get g).isSome = true by rw [h.sim.dom, hog]; rfl)
  have hk : RowOk w e mg true ty 1 (vals.map AV.val) := h.sim.obj g _ mg hog hmg
  have hg19 : g ≠ 19999 := by intro he; subst he; simp [unp] at hu
  have hrx := h.ev x
  rw [hx] at hrx
  generalize hvx : a.eval x = vx at hrx
  cases hrx with
  | data hd => cases hd
  | own0 => omega
  | ownX _ _ _ m hm hg =>
    rw [hmg] at hm; cases hm
    exact absurd hg hk.ngone
  | own _ _ _ m b hm hb hc =>
    rw [hmg] at hm; cases hm
    subst hn
    have hkb := hk.blk
    simp only [hb] at hkb
    obtain ⟨cur, h1, h2, h3⟩ := hkb
    have hms : mg.sz = 1 := hk.hsz
    have hnS : ¬ m19.has b := fun hb' => hg19 (h.sim.inj g 19999 mg m19 b hmg hm19 (.inl hb) hb')
    have hcap : vals.length ≤ mg.cap := by have := hk.len; simpa using this
    obtain ⟨fn, tmps, assign, body, hyr, hround⟩ := hy w m19.has b mg.cap cur hE.holds hE.lt (.inl hE.blk) hnS h1 (by rw [h2, Nat.mul_one]) hcap hk.cap (fun i v hv => by
      obtain ⟨u, g1, g2, g3⟩ := h3 i (.val v) (by rw [List.getElem?_map, hv]; rfl) 0 (.val v) rfl
      rw [Nat.mul_one, Nat.add_zero] at g1
      simp only [CellRd, if_true] at g3
      obtain rfl := g3.val_inv
      exact ⟨g1, g2⟩)
    refine upon_yield ho hfv (by simp only [List.map_toArray, List.map_cons, List.map_nil, hvx]; simpa [hms] using hyr) (hround.mono ?_)
    rintro en w' ⟨t, J', S', rfl, hR, hJ', hst, hSl, hSlt, hSs, k1, k2, k3, k4, k5⟩
    let m' : Mta := { m19 with more := S' }
    have hhas : ∀ c, m'.has c ↔ S' c := fun c => ⟨fun hc => by
      rcases hc with hc | hc
      · have : some l = some c := by rw [← hE.blk]; exact hc
        cases this; exact hSl
      · exact hc, fun hc => .inr hc⟩
    have hhasF : m'.has = S' := funext fun c => propext (hhas c)
    let e' : Env := { e with get := fun j => if j = g then none else if j = 19999 then some m' else e.get j }
    have hget : ∀ j, e'.get j = if j = g then none else if j = 19999 then some m' else e.get j := fun _ => rfl
    have hnotS : ∀ j mj c, e.get j = some mj → mj.has c → j ≠ 19999 → ¬ m19.has c := fun j mj c hj hc hne hc' => hne (h.sim.inj j 19999 mj m19 c hj hm19 hc hc')
    have hoth : ∀ j mj c, e.get j = some mj → mj.has c → j ≠ 19999 → j ≠ g → w'.heap[c]? = w.heap[c]? := fun j mj c hj hc hne hng =>
      k5 c (h.sim.blk_lt hj hc) (hnotS j mj c hj hc hne) (fun he => by subst he; exact hng (h.sim.inj j g mj mg c hj hmg hc (.inl hb)))
    have hfr : Fr w e w' e' := by
      refine ⟨k1, k2, k3, k4, fun c hc hno => k5 c hc (fun hS => hno ⟨19999, m19, hm19, hS⟩) (fun he => by subst he; exact hno ⟨g, mg, hmg, .inl hb⟩), fun c ho hc => ?_, rfl, ⟨fun id i1 i2 => ?_, fun m hm => ?_⟩⟩
      · obtain ⟨j, mj, hj, hm⟩ := ho
        rw [hget] at hj
        split at hj
        · cases hj
        · split at hj
          · cases hj
            rcases hSs c ((hhas c).1 hm) hc with h5 | h5
            · exact ⟨19999, m19, hm19, h5⟩
            · subst h5; exact ⟨g, mg, hmg, .inl hb⟩
          · exact ⟨j, mj, hj, hm⟩
      · rw [hget, if_neg (by intro he; subst he; simp [unp] at hu; omega), if_neg (by omega)]
      · rw [hm19] at hm; cases hm
        exact ⟨m', by rw [hget, if_neg (Ne.symm hg19), if_pos rfl], rfl, rfl, rfl⟩
    have hT : Turns w e w' e' (AV.kill g) := by
      intro y v hy
      unfold AV.kill
      cases hmen : y.men g with
      | true => exact .dead v
      | false =>
        refine hy.embed (fun j mj hj hmj => ?_) hfr.q
        rw [hget, if_neg (by intro he; subst he; rw [hmen] at hj; cases hj)]
        by_cases h5 : j = 19999
        · rw [if_pos h5]; subst h5; rw [hm19] at hmj; cases hmj; exact ⟨m', rfl, rfl, rfl, rfl⟩
        · rw [if_neg h5]; exact ⟨mj, hmj, mj.same_refl⟩
    have hlk : ∀ j, look j (st.yielded g l J').objs = if 19999 = j then some (.ext l J') else if g = j then none else (look j st.objs).map (Obj.map (AV.kill g)) := fun j => by
      show look j (upd 19999 (.ext l J') (del g (mapV (Obj.map (AV.kill g)) st.objs))) = _
      rw [look_upd, look_del, look_mapV]
    refine hnext (.val (.bool t)) (st.yielded g l J') (.bool t) w' e' (hK t J' hR) ⟨⟨fun j => ?_, fun i j mi mj c hi hj hc hc' => ?_, fun j o' mj ho' hmj => ?_, fun c hc => ?_, fun c hc => h.sim.new c (Nat.le_trans k4 hc)⟩, h.defers.fr hfr, h.size, fun s y hy => ?_⟩ hfr (.data (.val _))
    · rw [hlk, hget]
      by_cases h5 : 19999 = j
      · subst h5; rw [if_neg (Ne.symm hg19)]; simp
      · rw [if_neg h5, if_neg (Ne.symm h5)]
        by_cases h6 : g = j
        · subst h6; simp
        · rw [if_neg h6, if_neg (Ne.symm h6), Option.isSome_map]; exact h.sim.dom j
    · rw [hget] at hi hj
      split at hi
      · cases hi
      split at hj
      · cases hj
      rename_i hig hjg
      split at hi <;> split at hj
      · rename_i h5 h6; rw [h5, h6]
      · rename_i h5 h6
        cases hi
        rcases hSs c ((hhas c).1 hc) (h.sim.blk_lt hj hc') with h7 | h7
        · exact absurd h7 (hnotS j mj c hj hc' h6)
        · subst h7; exact absurd (h.sim.inj j g mj mg c hj hmg hc' (.inl hb)) hjg
      · rename_i h5 h6
        cases hj
        rcases hSs c ((hhas c).1 hc') (h.sim.blk_lt hi hc) with h7 | h7
        · exact absurd h7 (hnotS i mi c hi hc h5)
        · subst h7; exact absurd (h.sim.inj i g mi mg c hi hmg hc (.inl hb)) hig
      · exact h.sim.inj i j mi mj c hi hj hc hc'
    · rw [hlk] at ho'
      rw [hget] at hmj
      by_cases h5 : 19999 = j
      · subst h5
        rw [if_pos rfl] at ho'; rw [if_neg (Ne.symm hg19), if_pos rfl] at hmj
        cases ho'; cases hmj
        exact ⟨hE.blk, fun c hc => hSlt c ((hhas c).1 hc), by rw [hhasF]; exact hJ', hst⟩
      · rw [if_neg h5] at ho'
        by_cases h6 : g = j
        · rw [if_pos h6] at ho'; cases ho'
        · rw [if_neg h6] at ho'
          rw [if_neg (Ne.symm h6), if_neg (Ne.symm h5)] at hmj
          obtain ⟨o0, ho0, rfl⟩ := Option.map_eq_some_iff.1 ho'
          exact hT.obj (AV.kill_cells g) hfr.q (h.sim.obj j o0 mj ho0 hmj) k4 ⟨k1, k2, k3⟩ (fun c hc => hoth j mj c hmj hc (Ne.symm h5) (Ne.symm h6))
    · obtain ⟨j, mj, hj, hc'⟩ := hc
      rw [hget] at hj
      split at hj
      · cases hj
      · split at hj
        · cases hj
          have hS := (hhas c).1 hc'
          rcases Nat.lt_or_ge c w.heap.size with h5 | h5
          · rcases hSs c hS h5 with h7 | h7
            · exact h.sim.prok c ⟨19999, m19, hm19, h7⟩
            · subst h7; exact h.sim.prok c ⟨g, mg, hmg, .inl hb⟩
          · exact h.sim.new c h5
        · exact h.sim.prok c ⟨j, mj, hj, hc'⟩
    · have hy' : look s (mapV (AV.mapTop (AV.kill g)) st.tmps) = some y := hy
      rw [look_mapV] at hy'
      obtain ⟨y0, hy0, rfl⟩ := Option.map_eq_some_iff.1 hy'
      obtain ⟨v, hv, hr⟩ := h.tmp s y0 hy0
      exact ⟨v, hv, hT.top _ _ hr⟩
#print axioms WOp.yield
theorem WOps.yieldD {ops rest : List Oper} {K : St → Prop} {o : Oper} {f x : Operand} {tys : Array TypeId} (ho : o.op = .call { callee := .value f, args := #[x], argTypes := tys }) {st : St} (hgd : o.guard = none) (hd : dstOk o st = true) {l g n : Nat} {J : World → (Nat → Prop) → Prop} {ty : TypeId} {els : List AV} {vals : List Value} {t0 : Bool} {J1 : World → (Nat → Prop) → Prop}
    (hf : st.ev f = .yld 19999) (hobj : look 19999 st.objs = some (.ext l J)) (hx : st.ev x = .own g 0 n) (hog : look g st.objs = some (.row true ty 1 els)) (hels : els = vals.map AV.val) (hn : n = vals.length) (hn0 : 0 < n) (hu : unp g = true) (hy : YieldOk P l J ty vals (fun t J' => t = t0 ∧ J' = J1))
    (hK : WOps P ops K rest ((st.yielded g l J1).put o.dst (.val (.bool t0)))) : WOps P ops K (o :: rest) st := by
  subst hels
  refine ⟨hd, true, by simp [wantedA, hgd], ?_⟩
  simp only [if_true]
  exact WOp.yield ho hf hobj hx hog hn hn0 hu hy fun t J' ⟨h1, h2⟩ => by subst h1; subst h2; exact hK
end
attribute [simp] St.yielded
end Go.Sim
