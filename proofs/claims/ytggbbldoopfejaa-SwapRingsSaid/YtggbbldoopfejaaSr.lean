/- Rules in the form in which proofs use them; data by kind. -/
import Derived.Test.YtggbbldoopfejaaSq
import Derived.Test.YtggbbldoopfejaaSn
namespace Go.Sim
open Go.RowKit
section
variable {P : Program} {Γ : TypeId → Option TI}

theorem WOps.go (hΓ : TOk P Γ) {ops : List Oper} {K : St → Prop} {l l' : List Oper} {st st' : St} {r : List Oper × St} (hr : runSeg Γ ops l st = r) (hr' : r = (l', st')) (h : WOps P ops K l' st') : WOps P ops K l st :=
  WOps.seg hΓ (by rw [hr, hr']; exact h)
/-- a region all of whose operations are reckoned, with code behind it -/
theorem W.goS [M : Mode] (hΓ : TOk P Γ) {id : Nat} {ops : Array Oper} {y : Code} {st st' : St} {Q : Exit → St → Prop} {r : List Oper × St} (hr : runSeg Γ ops.toList ops.toList st = r) (hr' : r = ([], st')) (h : W P y st' Q) : W P (.seq (.region id ops false) y) st Q :=
  W.seq (W.region (WOps.go hΓ hr hr' h))
theorem W.go [M : Mode] (hΓ : TOk P Γ) {id : Nat} {ops : Array Oper} {st st' : St} {Q : Exit → St → Prop} {r : List Oper × St} (hr : runSeg Γ ops.toList ops.toList st = r) (hr' : r = ([], st')) (h : Q .normal st') : W P (.region id ops false) st Q :=
  W.region (WOps.go hΓ hr hr' h)
theorem WOps.done {ops : List Oper} {K : St → Prop} {st : St} (h : K st) : WOps P ops K [] st := h
theorem W.seqR [M : Mode] {id : Nat} {ops : Array Oper} {y : Code} {st : St} {Q : Exit → St → Prop} (h : WOps P ops.toList (fun s => W P y s Q) ops.toList st) : W P (.seq (.region id ops false) y) st Q := W.seq (W.region h)
theorem noGotoQ_n {Q : Exit → St → Prop} {st : St} (h : Q .normal st) : noGotoQ Q .normal st := h
theorem noGotoQ_r {Q : Exit → St → Prop} {st : St} (h : Q .ret st) : noGotoQ Q .ret st := h
theorem noGotoQ_e {Q : Exit → St → Prop} {st : St} {id : Nat} (h : Q (.exit id) st) : noGotoQ Q (.exit id) st := h
theorem thenQ_n {K : St → Prop} {Q : Exit → St → Prop} {st : St} (h : K st) : thenQ K Q .normal st := h
theorem thenQ_e {K : St → Prop} {Q : Exit → St → Prop} {st : St} {id : Nat} (h : Q (.exit id) st) : thenQ K Q (.exit id) st := h
theorem thenQ_g {K : St → Prop} {Q : Exit → St → Prop} {st : St} {id : Nat} (h : Q (.goto id) st) : thenQ K Q (.goto id) st := h
theorem thenQ_r {K : St → Prop} {Q : Exit → St → Prop} {st : St} (h : Q .ret st) : thenQ K Q .ret st := h
theorem blockQ_n {id : Nat} {Q : Exit → St → Prop} {st : St} (h : Q .normal st) : blockQ id Q .normal st := h
theorem blockQ_r {id : Nat} {Q : Exit → St → Prop} {st : St} (h : Q .ret st) : blockQ id Q .ret st := h
theorem blockQ_g {id l : Nat} {Q : Exit → St → Prop} {st : St} (h : Q (.goto l) st) : blockQ id Q (.goto l) st := h
theorem blockQ_s {id : Nat} {Q : Exit → St → Prop} {st : St} (h : Q .normal st) : blockQ id Q (.exit id) st := by simp [blockQ, h]
theorem blockQ_d {id id' : Nat} {Q : Exit → St → Prop} {st : St} (hd : (id' == id) = false) (h : Q (.exit id') st) : blockQ id Q (.exit id') st := by
  have : id' ≠ id := by simpa using hd
  simp [blockQ, this, h]

/-- both ways of a condition -/
theorem W.ite [M : Mode] {c : Operand} {x y : Code} {st : St} {t : Bool} {Q : Exit → St → Prop} (hv : st.ev c = .val (.bool t)) (h1 : t = true → W P x st Q) (h2 : t = false → W P y st Q) : W P (.cond c x y) st Q := by
  refine W.cond hv ?_
  cases t with
  | true => exact h1 rfl
  | false => exact h2 rfl

/-- what stands behind x is said by J -/
theorem W.seqJ [M : Mode] {x y : Code} {st : St} {Q : Exit → St → Prop} (J : St → Prop) (h : W P x st (thenQ (fun s => ∃ s', Le s s' ∧ J s') Q)) (hJ : ∀ s, J s → W P y s Q) : W P (.seq x y) st Q :=
  W.seq (h.mono fun ex s hs => by
    cases ex with
    | normal => obtain ⟨s', h1, h2⟩ := hs; exact W.weaken h1 (hJ s' h2)
    | _ => exact hs)

theorem Le.to {s : St} {tm : List (Nat × AV)} {objs : List (Nat × Obj)} {nt : Nat} (hn : s.nt = nt) (ho : s.objs = objs) (h : holdsT s.tmps tm) : Le s ⟨nt, tm, objs⟩ := by
  subst hn; subst ho
  exact Le.less tm (holdsT_look h)

/-- a loop over states of one shape -/
theorem W.loopS [M : Mode] {α : Type} {c : Code} {st : St} {Q : Exit → St → Prop} (S : α → St) (I : α → Prop) (μ : α → Nat) (x0 : α) (h0 : Le st (S x0)) (hI : I x0)
    (round : ∀ x, I x → W P c (S x) (thenQ (fun s' => ∃ y, Le s' (S y) ∧ I y ∧ μ y < μ x) Q)) : W P (.loop c) st Q :=
  W.loop (fun n s => ∃ x, s = S x ∧ I x ∧ μ x = n) (μ x0) ⟨_, h0, x0, rfl, hI, rfl⟩ (by
    rintro n s ⟨x, rfl, hx, rfl⟩
    refine (round x hx).mono fun ex s' hs => ?_
    cases ex with
    | normal => obtain ⟨y, h1, h2, h3⟩ := hs; exact ⟨μ y, S y, h3, h1, y, rfl, h2, rfl⟩
    | _ => exact hs)

/-- data in a slot is no longer than a slice can be -/
theorem Rd.imm_len {w : World} {e : Env} {l : List AV} {v : Value} (h : Rd w e (.imm l) v) : l.length ≤ maxLen := by
  cases h with
  | data h => cases h with
    | imm0 => simp
    | imm _ b off cap sz vals hne hz hq hlen => exact hlen

theorem ACalls.len {f : FuncId} {args : List AV} {objs : List (Nat × Obj)} {R : AV → List (Nat × Obj) → Prop} {l : List AV} (hm : AV.imm l ∈ args) (hf : Callable P f) (h : l.length ≤ maxLen → ACalls P f args objs R) : ACalls P f args objs R := by
  refine ⟨hf, fun w e vals h1 h2 h3 => ?_⟩
  obtain ⟨i, hi⟩ := List.mem_iff_getElem?.1 hm
  have hlt : i < vals.size := by rw [h2]; exact (List.getElem?_eq_some_iff.1 hi).1
  exact (h (h3 i _ vals[i] hi (Array.getElem?_eq_getElem hlt)).imm_len).run w e vals h1 h2 h3

theorem Le.objs {s : St} {tm : List (Nat × AV)} {objs : List (Nat × Obj)} {nt : Nat} (hn : s.nt = nt) (ho : ∀ id, look id s.objs = look id objs) (h : holdsT s.tmps tm) : Le s ⟨nt, tm, objs⟩ := by
  subst hn
  intro a w e hc
  exact ⟨e, (hc.less tm (holdsT_look h)).congr (fun _ => rfl) (fun id => (ho id).symm) rfl, Fr.refl w e⟩

theorem W.len [M : Mode] {c : Code} {st : St} {Q : Exit → St → Prop} {l : List AV} (t : Nat) (hl : look t st.tmps = some (.imm l)) (h : l.length ≤ maxLen → W P c st Q) : W P c st Q := by
  intro rd a w e hc
  obtain ⟨v, _, hr⟩ := hc.tmp t _ hl
  exact h hr.imm_len rd a w e hc
end

theorem wrap_i64 {n : Int} (h1 : -9223372036854775808 ≤ n) (h2 : n < 9223372036854775808) : IntKind.i64.wrap n = n := by
  have e1 : (2 : Int) ^ IntKind.i64.bits = 18446744073709551616 := by decide
  have e2 : (2 : Int) ^ (IntKind.i64.bits - 1) = 9223372036854775808 := by decide
  have e3 : IntKind.i64.signed = true := rfl
  simp only [IntKind.wrap, e1, e2, e3, Bool.true_and, decide_eq_true_eq]
  split <;> omega
theorem mul_i64 {a b : Int} (h1 : -9223372036854775808 ≤ a * b) (h2 : a * b < 9223372036854775808) : mulI .i64 a b = a * b := by rw [mulI_eq, wrap_i64 h1 h2]
theorem maxLen_val : maxLen = 9223372036854775807 := rfl
end Go.Sim
