/- Regions that draw their order, reckoned. -/
import Derived.Test.YtggbbldoopfejaaSr
namespace Go.Sim
open Go.RowKit
section
variable {P : Program} {Γ : TypeId → Option TI}

/-- one operation, seen from what it waits for: pure, or making a new object -/
noncomputable def evalQ (Γ : TypeId → Option TI) (o : Oper) (st : St) : Option (AV × List (Nat × Obj)) :=
  match isWrite o with
  | true => evalN Γ o st
  | false => match evalP Γ o st with
    | some r => some (r, [])
    | none => none
def newIn (o : Oper) (v : St) : List (Nat × Obj) → Bool
  | [] => true
  | x :: r => (match o.dst with | some d => decide (8 * (d : Nat) ≤ x.1) && decide (x.1 < 8 * (d : Nat) + 8) | none => false) && (look x.1 v.objs).isNone && newIn o v r
/-- what is made or turned: in the own slot, or told beforehand -/
def outIn (eff : List Nat) (o : Oper) (v : St) : List (Nat × Obj) → Bool
  | [] => true
  | x :: r => ((match o.dst with | some d => decide (8 * (d : Nat) ≤ x.1) && decide (x.1 < 8 * (d : Nat) + 8) | none => false) || ((look x.1 v.objs).isSome && eff.contains x.1)) && outIn eff o v r

theorem newIn_all {o : Oper} {v : St} : ∀ {l : List (Nat × Obj)}, newIn o v l = true → ∀ x ∈ l, (∃ d : Nat, o.dst = some d ∧ 8 * d ≤ x.1 ∧ x.1 < 8 * d + 8) ∧ look x.1 v.objs = none
  | [], _, x, hx => by simp at hx
  | y :: r, h, x, hx => by
    simp only [newIn, Bool.and_eq_true, Option.isNone_iff_eq_none] at h
    rcases List.mem_cons.1 hx with rfl | hx
    · cases hd : o.dst with
      | none => rw [hd] at h; simp at h
      | some d =>
        rw [hd] at h
        simp only [Bool.and_eq_true, decide_eq_true_eq] at h
        exact ⟨⟨d, rfl, h.1.1.1, h.1.1.2⟩, h.1.2⟩
    · exact newIn_all h.2 x hx
theorem outIn_all {k : Nat} {ids : List Nat} {eff : List (Nat × List Nat)} (hk : ids = [] ∨ (k, ids) ∈ eff) {o : Oper} {v : St} : ∀ {l : List (Nat × Obj)}, outIn ids o v l = true → outOk eff k o v l
  | [], _, x, hx => by simp at hx
  | y :: r, h, x, hx => by
    simp only [outIn, Bool.and_eq_true, Bool.or_eq_true, List.contains_eq_mem, decide_eq_true_eq] at h
    rcases List.mem_cons.1 hx with rfl | hx
    · rcases h.1 with h1 | h1
      · cases hd : o.dst with
        | none => rw [hd] at h1; simp at h1
        | some d =>
          rw [hd] at h1
          simp only [Bool.and_eq_true, decide_eq_true_eq] at h1
          exact .inl ⟨d, rfl, h1.1, h1.2⟩
      · refine .inr ⟨h1.1, ids, ?_, h1.2⟩
        rcases hk with rfl | hk
        · simp at h1
        · exact hk
    · exact outIn_all hk h.2 x hx

theorem evalQ_ok (hΓ : TOk P Γ) {o : Oper} {st : St} {r : AV} {new : List (Nat × Obj)} (h : evalQ Γ o st = some (r, new)) (hn : newIn o st new = true) : QStep P o st r new := by
  unfold evalQ at h
  split at h
  · exact QStep.ofN hΓ h fun x hx => (newIn_all hn x hx).2
  · split at h
    · rename_i r' hr
      cases h
      exact QStep.pure hΓ hr
    · cases h

/-- how far the head goes: what is left of n, the rest, the number reached, what was made -/
noncomputable def drawSeg (Γ : TypeId → Option TI) (ops : List Oper) (deps : List (List Nat)) (eff : List (Nat × List Nat)) (s0 : St) : Nat → List Oper → Nat → List REnt → Nat × List Oper × Nat × List REnt
  | 0, rest, k, ents => (0, rest, k, ents)
  | n + 1, [], k, ents => (n + 1, [], k, ents)
  | n + 1, o :: rest, k, ents => match wantedA ops o (viewSt ops deps eff s0 k ents) with
    | some true => match evalQ Γ o (viewSt ops deps eff s0 k ents) with
      | some (r, new) => match newIn o (viewSt ops deps eff s0 k ents) new with
        | true => drawSeg Γ ops deps eff s0 n rest (k + 1) (ents ++ [⟨o.dst, r, new⟩])
        | false => (n + 1, o :: rest, k, ents)
      | none => (n + 1, o :: rest, k, ents)
    | some false => drawSeg Γ ops deps eff s0 n rest (k + 1) (ents ++ [⟨o.dst, .dead, []⟩])
    | none => (n + 1, o :: rest, k, ents)

theorem WDraw.seg (hΓ : TOk P Γ) {ops : List Oper} {deps : List (List Nat)} {eff : List (Nat × List Nat)} {s0 : St} {K : St → Prop} : ∀ {n : Nat} {rest : List Oper} {k : Nat} {ents : List REnt},
    WDraw P ops deps eff s0 K (drawSeg Γ ops deps eff s0 n rest k ents).1 (drawSeg Γ ops deps eff s0 n rest k ents).2.1 (drawSeg Γ ops deps eff s0 n rest k ents).2.2.1 (drawSeg Γ ops deps eff s0 n rest k ents).2.2.2 → WDraw P ops deps eff s0 K n rest k ents
  | 0, rest, k, ents, h => h
  | n + 1, [], k, ents, h => h
  | n + 1, o :: rest, k, ents, h => by
    simp only [drawSeg] at h
    split at h
    · rename_i hw
      split at h
      · rename_i r new hq
        split at h
        · rename_i hn
          exact ⟨true, hw, by simp only [if_true]; exact ⟨r, new, evalQ_ok hΓ hq hn, fun x hx => .inl (newIn_all hn x hx).1, WDraw.seg hΓ h⟩⟩
        · exact h
      · exact h
    · rename_i hw
      exact ⟨false, hw, by simp only [Bool.false_eq_true, if_false]; exact ⟨_, .inl rfl, WDraw.seg hΓ h⟩⟩
    · exact h

theorem WDraw.go (hΓ : TOk P Γ) {ops : List Oper} {deps : List (List Nat)} {eff : List (Nat × List Nat)} {s0 : St} {K : St → Prop} {n n' : Nat} {rest rest' : List Oper} {k k' : Nat} {ents ents' : List REnt} {r : Nat × List Oper × Nat × List REnt}
    (hr : drawSeg Γ ops deps eff s0 n rest k ents = r) (hr' : r = (n', rest', k', ents')) (h : WDraw P ops deps eff s0 K n' rest' k' ents') : WDraw P ops deps eff s0 K n rest k ents :=
  WDraw.seg hΓ (by rw [hr, hr']; exact h)

/-- the head is done: the tail goes on in the text's order -/
theorem WDraw.done {ops : List Oper} {deps : List (List Nat)} {eff : List (Nat × List Nat)} {s0 s1 : St} {K : St → Prop} {rest : List Oper} {k : Nat} {ents : List REnt} (hs : mkSt (fun _ => true) 0 ents s0 = s1) (h : WOps P ops K rest s1) : WDraw P ops deps eff s0 K 0 rest k ents := by
  subst hs; exact h

theorem WDraw.call {ops : List Oper} {deps : List (List Nat)} {eff : List (Nat × List Nat)} {s0 : St} {K : St → Prop} {n : Nat} {rest : List Oper} {k : Nat} {ents : List REnt} {o : Oper} (hw : wantedA ops o (viewSt ops deps eff s0 k ents) = some true)
    {f : Operand} {args : Array Operand} {tys : Array TypeId} (ho : o.op = .call { callee := .value f, args, argTypes := tys }) {v : St} (hv : viewSt ops deps eff s0 k ents = v) {g : FuncId} {caps : List AV} (hf : v.callee f = some (g, caps)) (ps : List (Nat × Nat)) (hps : psOk ps = true) {ys : List AV} {b : Bool}
    (hsn : v.snaps ps (args.toList.map v.ev ++ caps) = some (ys, b)) {os : List (Nat × Obj)} (hos : v.objsFor ps ps = some os) {r0 : AV} {n0 : List (Nat × Obj)} (hc : ACalls P g ys os (fun r objs => r = r0 ∧ objs = n0)) {d : Nat} (hd : o.dst = some d)
    (hd2 : (decide (d < 1250) && backOk ps d n0 && freeNews b r0 n0 && (ps.all fun x => (look x.1 n0).isSome) && (newIds d n0).all fun id => (look id v.objs).isNone) = true)
    {r1 : AV} (hr1 : r0.ren (outName ps d) = r1) {n1 : List (Nat × Obj)} (hn1 : (n0.map fun x => (outName ps d x.1, x.2.ren (outName ps d))) = n1) (hin : outIn (ps.map (·.2)) o v n1 = true) (hk : ps.map (·.2) = [] ∨ (k, ps.map (·.2)) ∈ eff)
    (h : WDraw P ops deps eff s0 K n rest (k + 1) (ents ++ [⟨o.dst, r1, n1⟩])) : WDraw P ops deps eff s0 K (n + 1) (o :: rest) k ents := by
  subst hr1; subst hn1; subst hv
  simp only [Bool.and_eq_true, decide_eq_true_eq] at hd2
  obtain ⟨⟨⟨⟨q1, q2⟩, q3⟩, q4⟩, q5⟩ := hd2
  exact ⟨true, hw, by simp only [if_true]; exact ⟨_, _, QStep.call ho hf hps hsn hos hc q1 ⟨q2, q3⟩ q4 q5, outIn_all hk hin, h⟩⟩

theorem W.drawS [M : Mode] (hm : P.follows .mixedOrders = true) {id : Nat} {ops : Array Oper} {st : St} {Q : Exit → St → Prop} (n : Nat) (eff : List (Nat × List Nat)) {deps : List (List Nat)} (hdeps : allDeps ops.toList [] = deps)
    (hok : (drawOk ops.toList (allDeps ops.toList []) n st.nt && freshOk ops.toList st.objs && decide (n ≤ ops.size) && effOk ops.toList (allDeps ops.toList []) eff st.objs) = true)
    (h : WDraw P ops.toList deps eff st (Q .normal) n ops.toList 0 []) : W P (.region id ops true) st Q := by
  subst hdeps
  rw [Bool.and_eq_true] at hok
  exact W.draw hm n eff hok.1 hok.2 h
/-- a drawn region all of whose operations are reckoned -/
theorem W.drawG [M : Mode] (hΓ : TOk P Γ) (hm : P.follows .mixedOrders = true) {id : Nat} {ops : Array Oper} {st : St} {Q : Exit → St → Prop} (n : Nat) {deps : List (List Nat)} (hdeps : allDeps ops.toList [] = deps)
    (hok : (drawOk ops.toList (allDeps ops.toList []) n st.nt && freshOk ops.toList st.objs && decide (n ≤ ops.size) && effOk ops.toList (allDeps ops.toList []) [] st.objs) = true) {r : Nat × List Oper × Nat × List REnt} (hr : drawSeg Γ ops.toList deps [] st n ops.toList 0 [] = r)
    {rest : List Oper} {k : Nat} {ents : List REnt} (hr' : r = (0, rest, k, ents)) {s1 : St} (hs : mkSt (fun _ => true) 0 ents st = s1) {q : List Oper × St} (hq : runSeg Γ ops.toList rest s1 = q) {s2 : St} (hq' : q = ([], s2)) (h : Q .normal s2) : W P (.region id ops true) st Q :=
  W.drawS hm n [] hdeps hok (WDraw.go hΓ hr hr' (WDraw.done hs (WOps.go hΓ hq hq' h)))
end
attribute [simp] evalQ newIn outIn drawSeg viewSt badObjs mkSt REnt.add dels badFrom allDeps closeDeps mergeN directDeps freshOk Region.binds evalN
end Go.Sim
