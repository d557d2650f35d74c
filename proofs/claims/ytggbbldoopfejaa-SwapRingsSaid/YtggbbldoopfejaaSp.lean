/- The rule of a region that draws its order. -/
import Derived.Test.YtggbbldoopfejaaSo
namespace Go.Sim
open Go.RowKit
section
variable {P : Program} {Γ : TypeId → Option TI}

def directDeps (o : Oper) : List Nat := o.after.toList.filterMap fun e => if Region.binds .any e then some e.on else none
def mergeN : List Nat → List Nat → List Nat
  | [], a => a
  | x :: r, a => mergeN r (if a.contains x then a else x :: a)
/-- what is waited for, and what that waits for, each once -/
def closeDeps (acc : List (List Nat)) : List Nat → List Nat → List Nat
  | [], a => a
  | j :: r, a => closeDeps acc r (if a.contains j then a else mergeN (acc.getD j []) (j :: a))
def allDeps : List Oper → List (List Nat) → List (List Nat)
  | [], acc => acc
  | o :: r, acc => allDeps r (acc ++ [closeDeps acc (directDeps o) []])
theorem mem_mergeN {x : Nat} : ∀ {l a : List Nat}, x ∈ mergeN l a → x ∈ l ∨ x ∈ a
  | [], a, h => .inr h
  | y :: r, a, h => by
    rcases mem_mergeN (l := r) h with h | h
    · exact .inl (List.mem_cons_of_mem _ h)
    · split at h
      · exact .inr h
      · rcases List.mem_cons.1 h with rfl | h
        · exact .inl (by simp)
        · exact .inr h
theorem mem_closeDeps {acc : List (List Nat)} {x : Nat} : ∀ {l a : List Nat}, x ∈ closeDeps acc l a → x ∈ a ∨ ∃ j ∈ l, x = j ∨ x ∈ acc.getD j []
  | [], a, h => .inl h
  | j :: r, a, h => by
    rcases mem_closeDeps (l := r) h with h | ⟨j', h1, h2⟩
    · split at h
      · exact .inl h
      · rcases mem_mergeN h with h | h
        · exact .inr ⟨j, by simp, .inr h⟩
        · rcases List.mem_cons.1 h with rfl | h
          · exact .inr ⟨x, by simp, .inl rfl⟩
          · exact .inl h
    · exact .inr ⟨j', List.mem_cons_of_mem _ h1, h2⟩

structure REnt where
  dst : Option Tmp
  r : AV
  new : List (Nat × Obj)

def REnt.add (e : REnt) (s : St) : St := { s with tmps := (match e.dst with | some d => upd d e.r s.tmps | none => s.tmps), objs := e.new ++ s.objs }

/-- the state in which the chosen operations have been carried out -/
def mkSt (sel : Nat → Bool) : Nat → List REnt → St → St
  | _, [], s => s
  | k, e :: r, s => mkSt sel (k + 1) r (if sel k then e.add s else s)

def dels : List Nat → List (Nat × AV) → List (Nat × AV)
  | [], l => l
  | t :: r, l => dels r (del t l)
theorem look_dels (s : Nat) : ∀ (ts : List Nat) (l : List (Nat × AV)), look s (dels ts l) = if s ∈ ts then none else look s l
  | [], l => by simp [dels]
  | t :: r, l => by
    simp only [dels, look_dels s r (del t l), look_del, List.mem_cons]
    by_cases h1 : s ∈ r
    · simp [h1]
    · by_cases h2 : t = s
      · subst h2; simp
      · simp [h1, h2, Ne.symm h2]

/-- the slots that operations write which stand in no order with operation k -/
def badFrom (deps : List (List Nat)) (k : Nat) : Nat → List Oper → List Nat
  | _, [] => []
  | j, o :: r => match o.dst with
    | some d => if j = k ∨ (deps.getD k []).contains j ∨ (deps.getD j []).contains k then badFrom deps k (j + 1) r else d :: badFrom deps k (j + 1) r
    | none => badFrom deps k (j + 1) r

/-- objects that operations turn which stand in no order with operation k -/
def badObjs (deps : List (List Nat)) (k : Nat) : List (Nat × List Nat) → List Nat
  | [] => []
  | (j, ids) :: r => if j = k ∨ (deps.getD k []).contains j ∨ (deps.getD j []).contains k then badObjs deps k r else ids ++ badObjs deps k r

def viewSt (ops : List Oper) (deps : List (List Nat)) (eff : List (Nat × List Nat)) (s0 : St) (k : Nat) (ents : List REnt) : St :=
  let s := mkSt (fun i => (deps.getD k []).contains i) 0 ents { s0 with tmps := dels (badFrom deps k 0 ops) s0.tmps }
  { s with objs := delAll (badObjs deps k eff) s.objs }

/-- what an operation makes or turns: in its own slot, or told beforehand -/
def outOk (eff : List (Nat × List Nat)) (k : Nat) (o : Oper) (v : St) (new : List (Nat × Obj)) : Prop :=
  ∀ x ∈ new, (∃ d : Nat, o.dst = some d ∧ 8 * d ≤ x.1 ∧ x.1 < 8 * d + 8) ∨ ((look x.1 v.objs).isSome = true ∧ ∃ ids, (k, ids) ∈ eff ∧ x.1 ∈ ids)

/-- The head's operations, one after the other, each seen from what it waits for; then the tail, in the text's order. -/
def WDraw (P : Program) (ops : List Oper) (deps : List (List Nat)) (eff : List (Nat × List Nat)) (s0 : St) (K : St → Prop) : Nat → List Oper → Nat → List REnt → Prop
  | 0, rest, _, ents => WOps P ops K rest (mkSt (fun _ => true) 0 ents s0)
  | _ + 1, [], _, _ => False
  | n + 1, o :: rest, k, ents => ∃ t, wantedA ops o (viewSt ops deps eff s0 k ents) = some t ∧
      if t then ∃ r new, QStep P o (viewSt ops deps eff s0 k ents) r new ∧ outOk eff k o (viewSt ops deps eff s0 k ents) new ∧ WDraw P ops deps eff s0 K n rest (k + 1) (ents ++ [⟨o.dst, r, new⟩])
      else ∃ y, (y = .dead ∨ y = .val undef) ∧ WDraw P ops deps eff s0 K n rest (k + 1) (ents ++ [⟨o.dst, y, []⟩])

/-- what is asked of the region's own form: edges lead back, slots are written once, the tail waits for all before it -/
def drawOk (ops : List Oper) (deps : List (List Nat)) (n nt : Nat) : Bool :=
  (ops.zipIdx.all fun (o, i) => (directDeps o).all fun j => decide (j < i)) && distinct (ops.filterMap (·.dst)) && (ops.all fun o => match o.dst with | some d => decide (d < nt) | none => true) &&
  ((List.range ops.length).all fun k => decide (k < n) || (List.range k).all fun j => (deps.getD k []).contains j)
def freshOk (ops : List Oper) (objs : List (Nat × Obj)) : Bool :=
  objs.all fun x => ops.all fun o => match o.dst with | some d => !(decide (8 * (d : Nat) ≤ x.1) && decide (x.1 < 8 * (d : Nat) + 8)) | none => true

def slotHas (o : Oper) (id : Nat) : Bool := match o.dst with | some d => decide (8 * (d : Nat) ≤ id) && decide (id < 8 * (d : Nat) + 8) | none => false
theorem slotHas_iff {o : Oper} {id : Nat} : slotHas o id = true ↔ ∃ d : Nat, o.dst = some d ∧ 8 * d ≤ id ∧ id < 8 * d + 8 := by
  unfold slotHas
  cases h : o.dst with
  | none => simp
  | some d =>
    simp only [Bool.and_eq_true, decide_eq_true_eq]
    exact ⟨fun h => ⟨d, rfl, h⟩, fun ⟨d', h1, h2⟩ => by cases h1; exact h2⟩
/-- what is told beforehand lies there, or is made by one that is waited for; those who turn the same stand in order -/
def effOk (ops : List Oper) (deps : List (List Nat)) (eff : List (Nat × List Nat)) (objs : List (Nat × Obj)) : Bool :=
  eff.all fun x => (x.2.all fun id => (look id objs).isSome || (deps.getD x.1 []).any fun c => match ops[c]? with | some o => slotHas o id | none => false) &&
    (eff.all fun y => x.1 == y.1 || !(x.2.any y.2.contains) || (deps.getD y.1 []).contains x.1 || (deps.getD x.1 []).contains y.1) && deps.all fun l => l.all fun j => (deps.getD j []).all l.contains

/-! #### what a chosen state says -/
theorem mkSt_nt (sel : Nat → Bool) : ∀ (ents : List REnt) (k : Nat) (s : St), (mkSt sel k ents s).nt = s.nt
  | [], k, s => rfl
  | e :: r, k, s => by simp only [mkSt]; rw [mkSt_nt sel r (k + 1) _]; split <;> rfl

/-- the entry that writes slot t -/
theorem mkSt_tmp_none (sel : Nat → Bool) (t : Nat) : ∀ (ents : List REnt) (k : Nat) (s : St), (∀ j e, ents[j]? = some e → e.dst = some t → sel (k + j) = false) → look t (mkSt sel k ents s).tmps = look t s.tmps
  | [], k, s, _ => rfl
  | e :: r, k, s, h => by
    simp only [mkSt]
    rw [mkSt_tmp_none sel t r (k + 1) _ (fun j e' hj hd => by have := h (j + 1) e' (by simpa using hj) hd; rw [show k + 1 + j = k + (j + 1) from by omega]; exact this)]
    split
    · rename_i hs
      simp only [REnt.add]
      cases hd : e.dst with
      | none => rfl
      | some d =>
        simp only [look_upd]
        rw [if_neg]
        intro hdt
        have := h 0 e rfl (by rw [hd, hdt])
        rw [Nat.add_zero, hs] at this; cases this
    · rfl

theorem mkSt_tmp_some (sel : Nat → Bool) (t : Nat) : ∀ (ents : List REnt) (k : Nat) (s : St) (j : Nat) (e : REnt), (∀ i e', ents[i]? = some e' → e'.dst = some t → i = j) → ents[j]? = some e → e.dst = some t → sel (k + j) = true → look t (mkSt sel k ents s).tmps = some e.r
  | [], k, s, j, e, _, hj, _, _ => by simp at hj
  | e0 :: r, k, s, j, e, hu, hj, hd, hs => by
    simp only [mkSt]
    cases j with
    | zero =>
      simp at hj; subst hj
      rw [Nat.add_zero] at hs
      rw [mkSt_tmp_none sel t r (k + 1) _ (fun i e' hi hd' => by have := hu (i + 1) e' (by simpa using hi) hd'; omega)]
      simp [hs, REnt.add, hd, look_upd]
    | succ j =>
      exact mkSt_tmp_some sel t r (k + 1) _ j e (fun i e' hi hd' => by have := hu (i + 1) e' (by simpa using hi) hd'; omega) (by simpa using hj) hd (by rw [show k + 1 + j = k + (j + 1) from by omega]; exact hs)

/-- the entry that makes or turns object id last -/
theorem mkSt_obj_none (sel : Nat → Bool) (id : Nat) : ∀ (ents : List REnt) (k : Nat) (s : St), (∀ j e, ents[j]? = some e → (look id e.new).isSome → sel (k + j) = false) → look id (mkSt sel k ents s).objs = look id s.objs
  | [], k, s, _ => rfl
  | e :: r, k, s, h => by
    simp only [mkSt]
    rw [mkSt_obj_none sel id r (k + 1) _ (fun j e' hj hd => by have := h (j + 1) e' (by simpa using hj) hd; rw [show k + 1 + j = k + (j + 1) from by omega]; exact this)]
    split
    · rename_i hs
      simp only [REnt.add, look_append]
      cases hl : look id e.new with
      | none => rfl
      | some o =>
        have := h 0 e rfl (by rw [hl]; rfl)
        rw [Nat.add_zero, hs] at this; cases this
    · rfl

theorem mkSt_obj_some (sel : Nat → Bool) (id : Nat) (o : Obj) : ∀ (ents : List REnt) (k : Nat) (s : St) (j : Nat) (e : REnt), (∀ i e', ents[i]? = some e' → (look id e'.new).isSome → j < i → sel (k + i) = false) → ents[j]? = some e → look id e.new = some o → sel (k + j) = true → look id (mkSt sel k ents s).objs = some o
  | [], k, s, j, e, _, hj, _, _ => by simp at hj
  | e0 :: r, k, s, j, e, hu, hj, hd, hs => by
    simp only [mkSt]
    cases j with
    | zero =>
      simp at hj; subst hj
      rw [Nat.add_zero] at hs
      rw [mkSt_obj_none sel id r (k + 1) _ (fun i e' hi hd' => by have := hu (i + 1) e' (by simpa using hi) hd' (by omega); rw [show k + 1 + i = k + (i + 1) from by omega]; exact this)]
      simp [hs, REnt.add, look_append, hd]
    | succ j =>
      exact mkSt_obj_some sel id o r (k + 1) _ j e (fun i e' hi hd' hlt => by have := hu (i + 1) e' (by simpa using hi) hd' (by omega); rw [show k + 1 + i = k + (i + 1) from by omega]; exact this) (by simpa using hj) hd (by rw [show k + 1 + j = k + (j + 1) from by omega]; exact hs)

theorem last_touch (sel : Nat → Bool) (id : Nat) (ents : List REnt) : (∃ j e o, ents[j]? = some e ∧ look id e.new = some o ∧ sel j = true ∧ ∀ i e', ents[i]? = some e' → (look id e'.new).isSome → j < i → sel i = false) ∨ ∀ j e, ents[j]? = some e → (look id e.new).isSome → sel j = false := by
  have aux : ∀ n, (∃ j e o, ents[j]? = some e ∧ look id e.new = some o ∧ sel j = true ∧ ∀ i e', ents[i]? = some e' → (look id e'.new).isSome → j < i → sel i = false) ∨ ∀ j e, ents.length - n ≤ j → ents[j]? = some e → (look id e.new).isSome → sel j = false := by
    intro n
    induction n with
    | zero => exact .inr fun j e hj he => by have := (List.getElem?_eq_some_iff.1 he).1; omega
    | succ n ih =>
      rcases ih with ih | ih
      · exact .inl ih
      · by_cases hlt : n < ents.length
        · have he : ents[ents.length - (n + 1)]? = some ents[ents.length - (n + 1)] := List.getElem?_eq_getElem (by omega)
          by_cases hc : (look id ents[ents.length - (n + 1)].new).isSome = true ∧ sel (ents.length - (n + 1)) = true
          · obtain ⟨o, ho⟩ := Option.isSome_iff_exists.1 hc.1
            exact .inl ⟨_, _, o, he, ho, hc.2, fun i e' hi ht hlt' => ih i e' (by omega) hi ht⟩
          · refine .inr fun j e hj hje ht => ?_
            by_cases hjj : j = ents.length - (n + 1)
            · subst hjj
              rw [he] at hje; cases hje
              cases hs : sel (ents.length - (n + 1)) with
              | false => rfl
              | true => exact absurd ⟨ht, hs⟩ hc
            · exact ih j e (by omega) hje ht
        · exact .inr fun j e _ => ih j e (by omega)
  rcases aux ents.length with h | h
  · exact .inl h
  · exact .inr fun j e => h j e (by omega)

/-! #### waiting -/
theorem allDeps_acc : ∀ (l : List Oper) (acc : List (List Nat)) (j : Nat), j < acc.length → (allDeps l acc)[j]? = acc[j]?
  | [], acc, j, _ => rfl
  | o :: r, acc, j, h => by
    simp only [allDeps]
    rw [allDeps_acc r _ j (by simp; omega), List.getElem?_append_left h]

/-- Whatever an operation waits for has been listed, if the direct ones have. -/
theorem allDeps_listed (S : Nat → Prop) (ops : List Oper) (hS : ∀ i o, ops[i]? = some o → S i → ∀ j ∈ directDeps o, S j) : ∀ (l : List Oper) (acc : List (List Nat)), (∀ i, l[i]? = ops[acc.length + i]?) → (∀ i j, S i → j ∈ acc.getD i [] → S j) →
    ∀ i o, ops[i]? = some o → acc.length ≤ i → (∀ j ∈ directDeps o, S j) → ∀ j ∈ (allDeps l acc).getD i [], S j
  | [], acc, hl, hacc, i, o, ho, hi, hd, j, hj => by
    have := hl (i - acc.length)
    rw [show acc.length + (i - acc.length) = i from by omega, ho] at this
    simp at this
  | o0 :: r, acc, hl, hacc, i, o, ho, hi, hd, j, hj => by
    simp only [allDeps] at hj
    have h0 : ops[acc.length]? = some o0 := by have := hl 0; simpa using this.symm
    have hnew : ∀ i j, S i → j ∈ (acc ++ [closeDeps acc (directDeps o0) []]).getD i [] → S j := by
      intro i j hSi hj
      by_cases h1 : i < acc.length
      · refine hacc i j hSi ?_
        simpa [List.getD_eq_getElem?_getD, List.getElem?_append_left h1] using hj
      · by_cases h2 : i = acc.length
        · subst h2
          simp only [List.getD_eq_getElem?_getD, List.getElem?_append_right (Nat.le_refl _), Nat.sub_self, List.getElem?_cons_zero, Option.getD_some] at hj
          obtain ⟨x, hx, hj⟩ := (mem_closeDeps hj).resolve_left (by simp)
          have hSx := hS _ _ h0 hSi x hx
          rcases hj with rfl | hj
          · exact hSx
          · exact hacc x j hSx (by simpa [List.getD_eq_getElem?_getD] using hj)
        · have : (acc ++ [closeDeps acc (directDeps o0) []])[i]? = none := by simp; omega
          rw [List.getD_eq_getElem?_getD, this] at hj; simp at hj
    by_cases h1 : i = acc.length
    · subst h1
      rw [h0] at ho; cases ho
      have : (allDeps r (acc ++ [closeDeps acc (directDeps o0) []]))[acc.length]? = some (closeDeps acc (directDeps o0) []) := by
        rw [allDeps_acc _ _ _ (by simp)]; simp
      rw [List.getD_eq_getElem?_getD, this] at hj
      simp only [Option.getD_some] at hj
      obtain ⟨x, hx, hj⟩ := (mem_closeDeps hj).resolve_left (by simp)
      rcases hj with rfl | hj
      · exact hd _ hx
      · exact hacc x j (hd x hx) (by simpa [List.getD_eq_getElem?_getD] using hj)
    · exact allDeps_listed S ops hS r _ (fun k => by
        have := hl (k + 1)
        simp only [List.getElem?_cons_succ, List.length_append, List.length_singleton] at this ⊢
        rw [this]; congr 1; omega) hnew i o ho (by simp; omega) hd j hj
#print axioms allDeps_listed
end
end Go.Sim
