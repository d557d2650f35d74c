/- The rule of a region that draws its order: the proof. -/
import Derived.Test.YtggbbldoopfejaaSp
set_option linter.unusedSimpArgs false
set_option linter.unnecessarySimpa false
namespace Go.Sim
open Go.RowKit
section
variable {P : Program} {Γ : TypeId → Option TI}

theorem mem_directDeps {o : Oper} {j : Nat} : j ∈ directDeps o ↔ ∃ e ∈ o.after, Region.binds .any e = true ∧ e.on = j := by
  simp only [directDeps, List.mem_filterMap, Array.mem_toList_iff]
  constructor
  · rintro ⟨e, he, h⟩
    split at h
    · rename_i hb; cases h; exact ⟨e, he, hb, rfl⟩
    · cases h
  · rintro ⟨e, he, hb, rfl⟩
    exact ⟨e, he, by rw [if_pos hb]⟩

theorem mem_ready' {ops : Array Oper} {listed : Array Bool} {i : Nat} : i ∈ Region.ready .any ops listed ↔ listed.getD i true = false ∧ ∃ o, ops[i]? = some o ∧ ∀ j ∈ directDeps o, listed.getD j false = true := by
  rw [mem_ready]
  constructor
  · rintro ⟨h, o, ho, hall⟩
    refine ⟨h, o, ho, fun j hj => ?_⟩
    obtain ⟨e, he, hb, rfl⟩ := mem_directDeps.1 hj
    exact hall e he hb
  · rintro ⟨h, o, ho, hall⟩
    exact ⟨h, o, ho, fun e he hb => hall _ (mem_directDeps.2 ⟨e, he, hb, rfl⟩)⟩

theorem distinct_filterMap : ∀ {l : List Oper}, distinct (l.filterMap (·.dst)) = true → ∀ (i j : Nat) (o o' : Oper) (d : Nat), l[i]? = some o → l[j]? = some o' → o.dst = some d → o'.dst = some d → i = j
  | [], _, i, j, o, o', d, hi, _, _, _ => by simp at hi
  | x :: l, h, i, j, o, o', d, hi, hj, hd, hd' => by
    have htail : distinct (l.filterMap (·.dst)) = true := by
      simp only [List.filterMap_cons] at h
      split at h
      · exact h
      · simp only [distinct, Bool.and_eq_true] at h; exact h.2
    have hhead : ∀ (k : Nat) (o' : Oper) (d : Nat), x.dst = some d → l[k]? = some o' → o'.dst = some d → False := by
      intro k o' d hx hk hd'
      simp only [List.filterMap_cons, hx, distinct, Bool.and_eq_true, Bool.not_eq_true', List.contains_eq_mem, decide_eq_false_iff_not] at h
      exact h.1 (List.mem_filterMap.2 ⟨o', List.mem_of_getElem? hk, hd'⟩)
    cases i with
    | zero =>
      simp at hi; subst hi
      cases j with
      | zero => rfl
      | succ j => exact (hhead j o' d hd (by simpa using hj) hd').elim
    | succ i =>
      cases j with
      | zero => simp at hj; subst hj; exact (hhead i o d hd' (by simpa using hi) hd).elim
      | succ j => rw [distinct_filterMap htail i j o o' d (by simpa using hi) (by simpa using hj) hd hd']

theorem badFrom_mem (deps : List (List Nat)) (k : Nat) : ∀ (l : List Oper) (b j : Nat) (o : Oper) (t : Nat), l[j]? = some o → o.dst = some t → ¬ (b + j = k ∨ (deps.getD k []).contains (b + j) ∨ (deps.getD (b + j) []).contains k) → t ∈ badFrom deps k b l
  | [], b, j, o, t, hj, _, _ => by simp at hj
  | x :: l, b, j, o, t, hj, hd, hn => by
    cases j with
    | zero =>
      simp at hj; subst hj
      simp only [Nat.add_zero] at hn
      simp only [badFrom, hd, if_neg hn, List.mem_cons, true_or]
    | succ j =>
      have ih := badFrom_mem deps k l (b + 1) j o t (by simpa using hj) hd (by rw [show b + 1 + j = b + (j + 1) from by omega]; exact hn)
      simp only [badFrom]
      split
      · split
        · exact ih
        · exact List.mem_cons_of_mem _ ih
      · exact ih

/-- what WDraw says of operation i -/
def Fact (P : Program) (ops : List Oper) (deps : List (List Nat)) (eff : List (Nat × List Nat)) (s0 : St) (ents : List REnt) (i : Nat) : Prop :=
  ∃ o t e, ops[i]? = some o ∧ ents[i]? = some e ∧ e.dst = o.dst ∧ wantedA ops o (viewSt ops deps eff s0 i (ents.take i)) = some t ∧
    (t = true → QStep P o (viewSt ops deps eff s0 i (ents.take i)) e.r e.new) ∧ (t = false → (e.r = .dead ∨ e.r = .val undef) ∧ e.new = []) ∧ outOk eff i o (viewSt ops deps eff s0 i (ents.take i)) e.new

theorem WDraw.get {ops : List Oper} {deps : List (List Nat)} {eff : List (Nat × List Nat)} {s0 : St} {K : St → Prop} : ∀ (n : Nat) (rest : List Oper) (k : Nat) (ents0 : List REnt), ents0.length = k → (∀ j, rest[j]? = ops[k + j]?) → WDraw P ops deps eff s0 K n rest k ents0 →
    ∃ ents, ents.length = k + n ∧ ents.take k = ents0 ∧ (∀ i, k ≤ i → i < k + n → Fact P ops deps eff s0 ents i) ∧ WOps P ops K (ops.drop (k + n)) (mkSt (fun _ => true) 0 ents s0)
  | 0, rest, k, ents0, hl, hr, h => by
    refine ⟨ents0, by simp [hl], by rw [← hl]; exact List.take_length, fun i h1 h2 => by omega, ?_⟩
    have : rest = ops.drop (k + 0) := by
      refine List.ext_getElem? fun j => ?_
      rw [List.getElem?_drop, hr j]; rfl
    rw [← this]
    exact h
  | n + 1, [], k, ents0, hl, hr, h => h.elim
  | n + 1, o :: rest, k, ents0, hl, hr, h => by
    obtain ⟨t, hw, h⟩ := h
    have ho : ops[k]? = some o := by have := hr 0; simpa using this.symm
    have hr' : ∀ j, rest[j]? = ops[k + 1 + j]? := fun j => by have := hr (j + 1); rw [show k + 1 + j = k + (j + 1) from by omega]; simpa using this
    cases t with
    | true =>
      simp only [if_true] at h
      obtain ⟨r, new, hq, hnew, h⟩ := h
      obtain ⟨ents, g1, g2, g3, g4⟩ := WDraw.get n rest (k + 1) _ (by simp [hl]) hr' h
      have htk : ents.take k = ents0 := by
        have := congrArg (List.take k) g2
        rw [List.take_take, Nat.min_eq_left (by omega), List.take_append_of_le_length (by omega), ← hl, List.take_length] at this
        rw [← hl]; exact this
      have hek : ents[k]? = some ⟨o.dst, r, new⟩ := by
        have := congrArg (fun l => l[k]?) g2
        simp only [List.getElem?_take, Nat.lt_succ_self, if_true] at this
        rw [this, List.getElem?_append_right (by omega)]; simp [hl]
      refine ⟨ents, by omega, htk, fun i h1 h2 => ?_, by rw [show k + (n + 1) = k + 1 + n from by omega]; exact g4⟩
      by_cases hik : i = k
      · subst hik
        exact ⟨o, true, _, ho, hek, rfl, by rw [htk]; exact hw, (fun _ => by rw [htk]; exact hq), (fun h => by cases h), by rw [htk]; exact hnew⟩
      · exact g3 i (by omega) (by omega)
    | false =>
      simp only [Bool.false_eq_true, if_false] at h
      obtain ⟨y, hy, h⟩ := h
      obtain ⟨ents, g1, g2, g3, g4⟩ := WDraw.get n rest (k + 1) _ (by simp [hl]) hr' h
      have htk : ents.take k = ents0 := by
        have := congrArg (List.take k) g2
        rw [List.take_take, Nat.min_eq_left (by omega), List.take_append_of_le_length (by omega), ← hl, List.take_length] at this
        rw [← hl]; exact this
      have hek : ents[k]? = some ⟨o.dst, y, []⟩ := by
        have := congrArg (fun l => l[k]?) g2
        simp only [List.getElem?_take, Nat.lt_succ_self, if_true] at this
        rw [this, List.getElem?_append_right (by omega)]; simp [hl]
      refine ⟨ents, by omega, htk, fun i h1 h2 => ?_, by rw [show k + (n + 1) = k + 1 + n from by omega]; exact g4⟩
      by_cases hik : i = k
      · subst hik
        exact ⟨o, false, _, ho, hek, rfl, by rw [htk]; exact hw, (fun h => by cases h), (fun _ => ⟨hy, rfl⟩), (fun x hx => by simp at hx)⟩
      · exact g3 i (by omega) (by omega)

theorem look_none_of {α : Type} {t : Nat} {l : List (Nat × α)} (h : ∀ x ∈ l, x.1 ≠ t) : look t l = none := by
  cases hl : look t l with
  | none => rfl
  | some x => exact absurd rfl (h _ (look_mem hl))

theorem mkSt_all : ∀ (ents : List REnt) (s0 : St) (k : Nat) (sel : Nat → Bool), (∀ j, j < ents.length → sel (k + j) = true) → mkSt sel k ents s0 = mkSt (fun _ => true) k ents s0
  | [], s0, k, sel, _ => rfl
  | e :: r, s0, k, sel, h => by
    have h0 := h 0 (by simp)
    rw [Nat.add_zero] at h0
    simp only [mkSt, h0, if_true]
    exact mkSt_all r _ (k + 1) sel (fun j hj => by rw [show k + 1 + j = k + (j + 1) from by omega]; exact h (j + 1) (by simp; omega))

theorem mem_badObjs {deps : List (List Nat)} {k id : Nat} : ∀ {eff : List (Nat × List Nat)} {j : Nat} {ids : List Nat}, (j, ids) ∈ eff → id ∈ ids → ¬ (j = k ∨ (deps.getD k []).contains j ∨ (deps.getD j []).contains k) → id ∈ badObjs deps k eff
  | (j', ids') :: r, j, ids, hm, hid, hn => by
    simp only [badObjs]
    rcases List.mem_cons.1 hm with h | h
    · cases h; rw [if_neg hn]; exact List.mem_append_left _ hid
    · have := mem_badObjs h hid hn
      split
      · exact this
      · exact List.mem_append_right _ this

set_option maxHeartbeats 4000000 in
theorem draw_sound {rd : Option Nat} {ops : Array Oper} {n : Nat} {st : St} {eff : List (Nat × List Nat)} {K : St → Prop} (heff : effOk ops.toList (allDeps ops.toList []) eff st.objs = true) (hok : drawOk ops.toList (allDeps ops.toList []) n st.nt = true) (hfo : freshOk ops.toList st.objs = true) (hn : n ≤ ops.size)
    (h : WDraw P ops.toList (allDeps ops.toList []) eff st K n ops.toList 0 []) {a : Act} {w : World} {e : Env} (hc : Conc st a w e) {Q : Exit → Act → World → Prop}
    (hQ : ∀ st' a' w' e', Conc st' a' w' e' → Fr w e w' e' → K st' → Q .normal a' w') : wpAnyIn (FR rd) 0 P .any ops Q ops.size (Array.replicate ops.size false) a w := by
  obtain ⟨ents, hlen, _, hfact, htail⟩ := WDraw.get (P := P) n ops.toList 0 [] rfl (fun j => by simp) h
  simp only [Nat.zero_add] at hlen hfact htail
  simp only [drawOk, Bool.and_eq_true, List.all_eq_true, Bool.or_eq_true, decide_eq_true_eq, List.mem_range, Array.length_toList, List.contains_eq_mem] at hok
  obtain ⟨⟨⟨kb, kd⟩, kt⟩, ktail⟩ := hok
  have hback : ∀ i o, ops[i]? = some o → ∀ j ∈ directDeps o, j < i := by
    intro i o ho j hj
    have hmem : (o, i) ∈ ops.toList.zipIdx := by rw [List.mem_zipIdx_iff_getElem?]; simpa using ho
    exact kb (o, i) hmem j hj
  have hdeps_lt : ∀ i, ∀ j ∈ (allDeps ops.toList []).getD i [], i < ops.size → j < i := by
    intro i j hj hi
    have ho : ops.toList[i]? = some ops[i] := by simp [hi]
    exact allDeps_listed (fun x => x < i) ops.toList (fun a o ho ha j hj => by have := hback a o (by simpa using ho) j hj; omega) ops.toList [] (fun k => by simp) (fun a b _ hb => by simp at hb) i _ ho (by simp)
      (fun j hj => hback i _ (by simpa using ho) j hj) j hj
  have hdst : ∀ o ∈ ops.toList, ∀ d, o.dst = some d → d < st.nt := by
    intro o ho d hd
    have := kt o ho
    rw [hd] at this; simpa using this
  have hentdst : ∀ i, i < n → ∃ o en, ops[i]? = some o ∧ ents[i]? = some en ∧ en.dst = o.dst := by
    intro i hi
    obtain ⟨o, t, en, h1, h2, h3, _⟩ := hfact i (Nat.zero_le _) hi
    exact ⟨o, en, by simpa using h1, h2, h3⟩
  have huniq : ∀ (i j : Nat) (ei ej : REnt) (d : Nat), ents[i]? = some ei → ents[j]? = some ej → ei.dst = some d → ej.dst = some d → i = j := by
    intro i j ei ej d hi hj hdi hdj
    have hi' : i < n := by rw [← hlen]; exact (List.getElem?_eq_some_iff.1 hi).1
    have hj' : j < n := by rw [← hlen]; exact (List.getElem?_eq_some_iff.1 hj).1
    obtain ⟨oi, ei', a1, a2, a3⟩ := hentdst i hi'
    obtain ⟨oj, ej', b1, b2, b3⟩ := hentdst j hj'
    rw [hi] at a2; cases a2
    rw [hj] at b2; cases b2
    exact distinct_filterMap kd i j oi oj d (by simpa using a1) (by simpa using b1) (by rw [← a3]; exact hdi) (by rw [← b3]; exact hdj)
  have hslotfree : ∀ (o : Oper) (d id : Nat), o ∈ ops.toList → o.dst = some d → 8 * d ≤ id → id < 8 * d + 8 → look id st.objs = none := by
    intro o d id ho hd g2 g3
    refine look_none_of fun x hx hid' => ?_
    simp only [freshOk, List.all_eq_true] at hfo
    have := hfo x hx o ho
    rw [hd] at this
    rw [hid'] at this
    simp [g2, g3] at this
  have htouch : ∀ (i : Nat) (ei : REnt) (id : Nat), ents[i]? = some ei → (look id ei.new).isSome = true → (∃ d : Nat, ei.dst = some d ∧ 8 * d ≤ id ∧ id < 8 * d + 8 ∧ look id st.objs = none) ∨ ((∃ ids, (i, ids) ∈ eff ∧ id ∈ ids) ∧ ((look id st.objs).isSome = true ∨ ∃ (c : Nat) (oc : Oper) (dc : Nat), c ∈ (allDeps ops.toList []).getD i [] ∧ ops.toList[c]? = some oc ∧ oc.dst = some dc ∧ 8 * dc ≤ id ∧ id < 8 * dc + 8) ∧ (look id (viewSt ops.toList (allDeps ops.toList []) eff st i (ents.take i)).objs).isSome = true) := by
    intro i ei id hi hid
    have hi' : i < n := by rw [← hlen]; exact (List.getElem?_eq_some_iff.1 hi).1
    obtain ⟨o, t, en, h1, h2, h3, _, _, _, h7⟩ := hfact i (Nat.zero_le _) hi'
    rw [hi] at h2; cases h2
    obtain ⟨x, hx⟩ := Option.isSome_iff_exists.1 hid
    rcases h7 _ (look_mem hx) with ⟨d, g1, g2, g3⟩ | ⟨g1, ids, g2, g3⟩
    · exact .inl ⟨d, by rw [h3]; exact g1, g2, g3, hslotfree o d id (List.mem_of_getElem? h1) g1 g2 g3⟩
    · refine .inr ⟨⟨ids, g2, g3⟩, ?_, g1⟩
      simp only [effOk, List.all_eq_true, Bool.and_eq_true, Bool.or_eq_true] at heff
      rcases (heff _ g2).1.1 id g3 with h8 | h8
      · exact .inl h8
      · obtain ⟨c, c1, c2⟩ := List.any_eq_true.1 h8
        split at c2
        · rename_i oc hoc
          obtain ⟨dc, c3, c4⟩ := slotHas_iff.1 c2
          exact .inr ⟨c, oc, dc, c1, hoc, c3, c4⟩
        · cases c2
  have htrans : ∀ i ids, (i, ids) ∈ eff → ∀ k j m, j ∈ (allDeps ops.toList []).getD k [] → m ∈ (allDeps ops.toList []).getD j [] → m ∈ (allDeps ops.toList []).getD k [] := by
    intro i ids hi k j m hj hm
    simp only [effOk, List.all_eq_true, Bool.and_eq_true, List.contains_eq_mem, decide_eq_true_eq] at heff
    refine (heff _ hi).2 ((allDeps ops.toList []).getD k []) ?_ j hj m hm
    rw [List.getD_eq_getElem?_getD] at hj ⊢
    cases hk : (allDeps ops.toList [])[k]? with
    | none => rw [hk] at hj; simp at hj
    | some l => exact List.mem_of_getElem? hk
  have hcreat : ∀ (i : Nat) (ei : REnt) (id d : Nat), ents[i]? = some ei → ei.dst = some d → 8 * d ≤ id → id < 8 * d + 8 → ∀ (c : Nat) (oc : Oper) (dc : Nat), ops.toList[c]? = some oc → oc.dst = some dc → 8 * dc ≤ id → id < 8 * dc + 8 → c = i := by
    intro i ei id d hi hd h1 h2 c oc dc hc hdc h3 h4
    have hi' : i < n := by rw [← hlen]; exact (List.getElem?_eq_some_iff.1 hi).1
    obtain ⟨oi, ei', a1, a2, a3⟩ := hentdst i hi'
    rw [hi] at a2; cases a2
    have hdd : d = dc := by omega
    subst hdd
    exact distinct_filterMap kd c i oc oi d hc (by simpa using a1) hdc (by rw [← a3]; exact hd)
  have hdeps_ltn : ∀ i j, i < n → j ∈ (allDeps ops.toList []).getD i [] → j < i := fun i j hi hj => hdeps_lt i j hj (by omega)
  -- who turns the same object stands in order
  have hord : ∀ (i j : Nat) (ei ej : REnt) (id : Nat), ents[i]? = some ei → ents[j]? = some ej → (look id ei.new).isSome = true → (look id ej.new).isSome = true → i = j ∨ i ∈ (allDeps ops.toList []).getD j [] ∨ j ∈ (allDeps ops.toList []).getD i [] := by
    intro i j ei ej id hi hj hdi hdj
    rcases htouch i ei id hi hdi with ⟨d1, g1, g2, g3, g4⟩ | ⟨⟨ids, g1, g2⟩, g3, _⟩ <;> rcases htouch j ej id hj hdj with ⟨d2, k1, k2, k3, k4⟩ | ⟨⟨ids', k1, k2⟩, k3, _⟩
    · have : d1 = d2 := by omega
      subst this
      exact .inl (huniq i j ei ej d1 hi hj g1 k1)
    · rcases k3 with k3 | ⟨c, oc, dc, c1, c2, c3, c4, c5⟩
      · rw [g4] at k3; cases k3
      · have := hcreat i ei id d1 hi g1 g2 g3 c oc dc c2 c3 c4 c5
        subst this; exact .inr (.inl c1)
    · rcases g3 with g3 | ⟨c, oc, dc, c1, c2, c3, c4, c5⟩
      · rw [k4] at g3; cases g3
      · have := hcreat j ej id d2 hj k1 k2 k3 c oc dc c2 c3 c4 c5
        subst this; exact .inr (.inr c1)
    · simp only [effOk, List.all_eq_true, Bool.and_eq_true, Bool.or_eq_true, beq_iff_eq, Bool.not_eq_true', List.contains_eq_mem, decide_eq_true_eq] at heff
      have := (heff _ g1).1.2 _ k1
      simp only at this
      rcases this with ((h1 | h1) | h1) | h1
      · exact .inl h1
      · have h2 : ids.any ids'.contains = true := List.any_eq_true.2 ⟨id, g2, by simpa using k2⟩
        rw [h2] at h1; cases h1
      · exact .inr (.inl h1)
      · exact .inr (.inr h1)
  -- the walk
  have key : ∀ (fuel : Nat) (listed : Array Bool) (a' : Act) (w' : World), listed.size = ops.size → ((List.range ops.size).filter fun i => !listed.getD i false).length ≤ fuel →
      (∀ i o, ops[i]? = some o → listed.getD i false = true → ∀ j ∈ directDeps o, listed.getD j false = true) →
      (((∀ k, n ≤ k → listed.getD k false = false) ∧ ∃ e', Conc (mkSt (fun i => listed.getD i false) 0 ents st) a' w' e' ∧ Fr w e w' e') ∨
        ∃ k, n ≤ k ∧ (∀ j, j < ops.size → listed.getD j false = decide (j < k)) ∧ ∃ s e', WOps P ops.toList K (ops.toList.drop k) s ∧ Conc s a' w' e' ∧ Fr w e w' e') → wpAnyIn (FR rd) 0 P .any ops Q fuel listed a' w' := by
    intro fuel
    induction fuel with
    | zero =>
      intro listed a' w' hsz hcount hcl hJ
      have hall : ∀ i, i < ops.size → listed.getD i false = true := by
        intro i hi
        cases hl : listed.getD i false with
        | true => rfl
        | false =>
          have : i ∈ (List.range ops.size).filter fun i => !listed.getD i false := by simp [hi]; simpa using hl
          have := List.length_pos_of_mem this
          omega
      refine ⟨?_, ?_⟩
      · refine List.eq_nil_iff_forall_not_mem.2 fun i hi => ?_
        obtain ⟨h1, o, ho, _⟩ := mem_ready'.1 hi
        have hlt : i < ops.size := (Array.getElem?_eq_some_iff.1 ho).1
        have := hall i hlt
        simp only [Array.getD_eq_getD_getElem?] at h1 this
        rw [Array.getElem?_eq_getElem (by omega)] at h1 this
        simp at h1 this
        rw [this] at h1; cases h1
      · rcases hJ with ⟨hnt, e', c1, f1⟩ | ⟨k, hk, hkl, s, e', hW, c1, f1⟩
        · have hnn : n = ops.size := by
            rcases Nat.lt_or_ge n ops.size with h1 | h1
            · have := hnt n (Nat.le_refl _); rw [hall n h1] at this; cases this
            · omega
          have hm := mkSt_all ents st 0 (fun i => listed.getD i false) (fun j hj => by rw [Nat.zero_add]; exact hall j (by omega))
          rw [hm] at c1
          have : ops.toList.drop n = [] := by rw [hnn]; simp
          rw [this] at htail
          exact hQ _ a' w' e' c1 f1 htail
        · have hkk : ops.size ≤ k := by
            rcases Nat.lt_or_ge k ops.size with h1 | h1
            · have := hkl k h1; rw [hall k h1] at this; simp at this
            · exact h1
          have : ops.toList.drop k = [] := List.drop_eq_nil_of_le (by simpa using hkk)
          rw [this] at hW
          exact hQ s a' w' e' c1 f1 hW
    | succ fuel ih =>
      intro listed a' w' hsz hcount hcl hJ
      have hgd : ∀ i, i < ops.size → listed.getD i true = listed.getD i false := by
        intro i hi
        simp only [Array.getD_eq_getD_getElem?]
        rw [Array.getElem?_eq_getElem (by omega)]; rfl
      have hsetsz : ∀ i, (listed.setIfInBounds i true).size = ops.size := fun i => by simp [hsz]
      have hsetget : ∀ i j, i < ops.size → (listed.setIfInBounds i true).getD j false = if i = j then true else listed.getD j false := by
        intro i j hi
        by_cases hij : i = j
        · subst hij; simp [hsz, hi]
        · rw [getD_set_ne false hij, if_neg hij]
      have hsetcount : ∀ i, i < ops.size → listed.getD i false = false → ((List.range ops.size).filter fun j => !(listed.setIfInBounds i true).getD j false).length ≤ fuel := by
        intro i hi hli
        have h1 : (List.range ops.size).filter (fun j => !(listed.setIfInBounds i true).getD j false) = ((List.range ops.size).filter fun j => !listed.getD j false).filter (fun j => decide (j ≠ i)) := by
          rw [List.filter_filter]
          refine List.filter_congr fun j _ => ?_
          rw [hsetget i j hi]
          by_cases hij : i = j
          · subst hij; simp
          · simp [hij, Ne.symm hij]
        have hmem : i ∈ (List.range ops.size).filter fun j => !listed.getD j false := by simp [hi]; simpa using hli
        have h2 : (((List.range ops.size).filter fun j => !listed.getD j false).filter (fun j => decide (j ≠ i))).length < ((List.range ops.size).filter fun j => !listed.getD j false).length := by
          rw [List.length_filter_lt_length_iff_exists]
          exact ⟨i, hmem, by simp⟩
        rw [h1]; omega
      have hsetcl : ∀ i o, ops[i]? = some o → (∀ j ∈ directDeps o, listed.getD j false = true) → ∀ i' o', ops[i']? = some o' → (listed.setIfInBounds i true).getD i' false = true → ∀ j ∈ directDeps o', (listed.setIfInBounds i true).getD j false = true := by
        intro i o ho hd i' o' ho' hl' j hj
        have hi : i < ops.size := (Array.getElem?_eq_some_iff.1 ho).1
        rw [hsetget i i' hi] at hl'
        rw [hsetget i j hi]
        by_cases hij : i = j
        · rw [if_pos hij]
        · rw [if_neg hij]
          by_cases hii : i = i'
          · subst hii; rw [ho] at ho'; cases ho'; exact hd j hj
          · rw [if_neg hii] at hl'; exact hcl i' o' ho' hl' j hj
      refine ⟨fun hnil => ?_, fun i hi => ?_⟩
      · -- nothing is ready: all is listed
        have hall : ∀ i, i < ops.size → listed.getD i false = true := by
          intro i
          induction i using Nat.strongRecOn with
          | _ i ihi =>
            intro hi
            cases hl : listed.getD i false with
            | true => rfl
            | false =>
              exfalso
              have : i ∈ Region.ready .any ops listed := mem_ready'.2 ⟨by rw [hgd i hi]; exact hl, ops[i], Array.getElem?_eq_getElem hi, fun j hj => by
                have := hback i _ (Array.getElem?_eq_getElem hi) j hj
                exact ihi j this (by omega)⟩
              rw [hnil] at this; simp at this
        rcases hJ with ⟨hnt, e', c1, f1⟩ | ⟨k, hk, hkl, s, e', hW, c1, f1⟩
        · have hnn : n = ops.size := by
            rcases Nat.lt_or_ge n ops.size with h1 | h1
            · have := hnt n (Nat.le_refl _); rw [hall n h1] at this; cases this
            · omega
          have hm := mkSt_all ents st 0 (fun i => listed.getD i false) (fun j hj => by rw [Nat.zero_add]; exact hall j (by omega))
          rw [hm] at c1
          have : ops.toList.drop n = [] := by rw [hnn]; simp
          rw [this] at htail
          exact hQ _ a' w' e' c1 f1 htail
        · have hkk : ops.size ≤ k := by
            rcases Nat.lt_or_ge k ops.size with h1 | h1
            · have := hkl k h1; rw [hall k h1] at this; simp at this
            · exact h1
          have : ops.toList.drop k = [] := List.drop_eq_nil_of_le (by simpa using hkk)
          rw [this] at hW
          exact hQ s a' w' e' c1 f1 hW
      · obtain ⟨hli, o, ho, hdl⟩ := mem_ready'.1 hi
        have hilt : i < ops.size := (Array.getElem?_eq_some_iff.1 ho).1
        rw [hgd i hilt] at hli
        have hDl : ∀ j ∈ (allDeps ops.toList []).getD i [], listed.getD j false = true :=
          allDeps_listed (fun x => listed.getD x false = true) ops.toList (fun a o ho ha j hj => hcl a o (by simpa using ho) ha j hj) ops.toList [] (fun k => by simp) (fun a b _ hb => by simp at hb) i o (by simpa using ho) (by simp) hdl
        -- a tail step, from k
        have tailstep : ∀ k, n ≤ k → (∀ j, j < ops.size → listed.getD j false = decide (j < k)) → ∀ s e', WOps P ops.toList K (ops.toList.drop k) s → Conc s a' w' e' → Fr w e w' e' → wpOpIn (FR rd) 0 P ops Q i (wpAnyIn (FR rd) 0 P .any ops Q fuel (listed.setIfInBounds i true)) a' w' := by
          intro k hk hkl s e' hW c1 f1
          have hik : i = k := by
            have h1 := hkl i hilt
            rw [hli] at h1
            have hki : k ≤ i := by simpa using h1.symm
            rcases Nat.lt_or_ge k i with h2 | h2
            · exfalso
              have := (ktail i hilt).resolve_left (by omega) k h2
              have h3 := hDl k this
              rw [hkl k (by omega)] at h3; simp at h3
            · omega
          subst hik
          have hdrop : ops.toList.drop i = o :: ops.toList.drop (i + 1) := by
            have := List.drop_eq_getElem_cons (l := ops.toList) (i := i) (by simpa using hilt)
            rw [this]; congr 1
            have : ops[i]? = some ops[i] := Array.getElem?_eq_getElem hilt
            rw [ho] at this; simpa using this.symm
          rw [hdrop] at hW
          obtain ⟨hdok, t, hw, hW⟩ := hW
          have hdd : ∀ d, o.dst = some d → d < s.nt := fun d hd' => by simp only [dstOk, hd', decide_eq_true_eq] at hdok; exact hdok
          have hlisted : ∀ j, j < ops.size → (listed.setIfInBounds i true).getD j false = decide (j < i + 1) := by
            intro j hj
            rw [hsetget i j hilt]
            by_cases hij : i = j
            · subst hij; simp
            · rw [if_neg hij, hkl j hj]; congr 1; simp; omega
          have next : ∀ s2 a2 w2 e2, WOps P ops.toList K (ops.toList.drop (i + 1)) s2 → Conc s2 a2 w2 e2 → Fr w e w2 e2 → wpAnyIn (FR rd) 0 P .any ops Q fuel (listed.setIfInBounds i true) a2 w2 := fun s2 a2 w2 e2 h1 h2 h3 =>
            ih _ a2 w2 (hsetsz i) (hsetcount i hilt hli) (hsetcl i o ho hdl) (.inr ⟨i + 1, by omega, hlisted, s2, e2, h1, h2, h3⟩)
          simp only [wpOpIn, ho]
          rw [wantedA_ok hw c1.view]
          cases t with
          | true =>
            simp only [if_true] at hW ⊢
            exact (hW rd a' w' e' c1 _ _ fun r st' v w2 e2 hK' hc2 hf2 hr2 => next _ _ _ e2 hK' (hc2.put hr2 (fun d hd' => by rw [← hc2.size, c1.size]; exact hdd d hd')) (f1.trans hf2))
          | false =>
            simp only [Bool.false_eq_true, if_false] at hW ⊢
            obtain ⟨y, hy, hW⟩ := hW
            exact ⟨fun _ _ => trivial, next _ _ _ e' hW (c1.put (v := undef) (by rcases hy with rfl | rfl; exact .dead _; exact .data (.val _)) hdd) f1⟩
        rcases hJ with ⟨hnt, e', c1, f1⟩ | ⟨k, hk, hkl, s, e', hW, c1, f1⟩
        · rcases Nat.lt_or_ge i n with hin | hin
          · -- a head step
            obtain ⟨o', t, en, g1, g2, g3, g4, g5, g6, g7⟩ := hfact i (Nat.zero_le _) hin
            have : o' = o := by have h1 : ops.toList[i]? = some o := by simpa using ho
                                rw [h1] at g1; cases g1; rfl
            subst this
            have hnotin : ∀ j, listed.getD j false = true → i ∉ (allDeps ops.toList []).getD j [] := by
              intro j hj hij
              have hjlt : j < ops.size := by
                rcases Nat.lt_or_ge j ops.size with h1 | h1
                · exact h1
                · simp [Array.getD_eq_getD_getElem?, Array.getElem?_eq_none (show listed.size ≤ j by omega)] at hj
              have := allDeps_listed (fun x => listed.getD x false = true) ops.toList (fun a o ho ha j hj => hcl a o (by simpa using ho) ha j hj) ops.toList [] (fun k => by simp) (fun a b _ hb => by simp at hb) j ops[j] (by simp [hjlt]) (by simp)
                (hcl j _ (Array.getElem?_eq_getElem hjlt) hj) i hij
              rw [hli] at this; cases this
            -- what i sees holds
            have hsub : Sub (viewSt ops.toList (allDeps ops.toList []) eff st i (ents.take i)) (mkSt (fun i => listed.getD i false) 0 ents st) := by
              have hte : ∀ j (ej : REnt), (ents.take i)[j]? = some ej → j < i ∧ ents[j]? = some ej := fun j ej hj => by
                rw [List.getElem?_take] at hj
                split at hj
                · rename_i h1; exact ⟨h1, hj⟩
                · cases hj
              refine ⟨fun t x hx => ?_, fun id ob hob => ?_⟩
              · by_cases hex : ∃ j ej, (ents.take i)[j]? = some ej ∧ ej.dst = some t ∧ ((allDeps ops.toList []).getD i []).contains j = true
                · obtain ⟨j, ej, h1, h2, h3⟩ := hex
                  obtain ⟨h1a, h1b⟩ := hte j ej h1
                  have e1 := mkSt_tmp_some (fun x => ((allDeps ops.toList []).getD i []).contains x) t (ents.take i) 0 { st with tmps := dels (badFrom (allDeps ops.toList []) i 0 ops.toList) st.tmps } j ej (fun i' e' hi' hd' => huniq i' j e' ej t (hte i' e' hi').2 h1b hd' h2) h1 h2 (by rw [Nat.zero_add]; exact h3)
                  have e2 := mkSt_tmp_some (fun i => listed.getD i false) t ents 0 st j ej (fun i' e' hi' hd' => huniq i' j e' ej t hi' h1b hd' h2) h1b h2 (by rw [Nat.zero_add]; exact hDl j (by simpa using h3))
                  rw [show look t (viewSt ops.toList (allDeps ops.toList []) eff st i (ents.take i)).tmps = some ej.r from e1] at hx
                  cases hx; exact e2
                · have e1 := mkSt_tmp_none (fun x => ((allDeps ops.toList []).getD i []).contains x) t (ents.take i) 0 { st with tmps := dels (badFrom (allDeps ops.toList []) i 0 ops.toList) st.tmps } (fun j ej hj hd => by
                    rw [Nat.zero_add]
                    cases hcn : ((allDeps ops.toList []).getD i []).contains j with
                    | false => rfl
                    | true => exact absurd ⟨j, ej, hj, hd, hcn⟩ hex)
                  rw [show look t (viewSt ops.toList (allDeps ops.toList []) eff st i (ents.take i)).tmps = look t (dels (badFrom (allDeps ops.toList []) i 0 ops.toList) st.tmps) from e1, look_dels] at hx
                  split at hx
                  · cases hx
                  · rename_i hbad
                    rw [mkSt_tmp_none (fun i => listed.getD i false) t ents 0 st (fun j ej hj hd => by
                      rw [Nat.zero_add]
                      cases hlj : listed.getD j false with
                      | false => rfl
                      | true =>
                        exfalso
                        have hjn : j < n := by rw [← hlen]; exact (List.getElem?_eq_some_iff.1 hj).1
                        obtain ⟨oj, ej', b1, b2, b3⟩ := hentdst j hjn
                        rw [hj] at b2; cases b2
                        refine hbad (badFrom_mem _ i ops.toList 0 j oj t (by simpa using b1) (by rw [← b3]; exact hd) ?_)
                        rw [Nat.zero_add]
                        rintro (h1 | h1 | h1)
                        · rw [h1, hli] at hlj; cases hlj
                        · have hji : j < i := hdeps_lt i j (by simpa using h1) hilt
                          exact hex ⟨j, ej, by rw [List.getElem?_take, if_pos hji]; exact hj, hd, h1⟩
                        · exact hnotin j hlj (by simpa using h1))]
                    exact hx
              · have hob' : look id (delAll (badObjs (allDeps ops.toList []) i eff) (mkSt (fun x => ((allDeps ops.toList []).getD i []).contains x) 0 (ents.take i) { st with tmps := dels (badFrom (allDeps ops.toList []) i 0 ops.toList) st.tmps }).objs) = some ob := hob
                rw [look_delAll] at hob'
                split at hob'
                · cases hob'
                · rename_i hnbad
                  -- who is listed and turns it has been waited for
                  have hwait : ∀ j ej, ents[j]? = some ej → (look id ej.new).isSome = true → listed.getD j false = true → (∃ j' ej', (ents.take i)[j']? = some ej' ∧ (look id ej'.new).isSome = true ∧ j' ∈ (allDeps ops.toList []).getD i []) ∨ look id st.objs ≠ none → j ∈ (allDeps ops.toList []).getD i [] := by
                    intro j ej hj hd hlj hsome
                    have hjn : j < n := by rw [← hlen]; exact (List.getElem?_eq_some_iff.1 hj).1
                    by_cases hun : j = i ∨ ((allDeps ops.toList []).getD i []).contains j ∨ ((allDeps ops.toList []).getD j []).contains i
                    · rcases hun with h1 | h1 | h1
                      · rw [h1, hli] at hlj; cases hlj
                      · simpa using h1
                      · exact absurd (by simpa using h1) (hnotin j hlj)
                    · exfalso
                      rcases htouch j ej id hj hd with ⟨d, kdj, k2, k3, k4⟩ | ⟨⟨ids, k1, k2⟩, _, _⟩
                      · rcases hsome with ⟨j', ej', q1, q2, q3⟩ | hs
                        · rcases hord j j' ej ej' id hj (hte j' ej' q1).2 hd q2 with h1 | h1 | h1
                          · subst h1; exact hun (.inr (.inl (by simpa using q3)))
                          · rcases htouch j' ej' id (hte j' ej' q1).2 q2 with ⟨d', m1, m2, m3, m4⟩ | ⟨⟨ids', m0, _⟩, _, _⟩
                            · have hdd : d = d' := by omega
                              subst hdd
                              have := huniq j j' ej ej' d hj (hte j' ej' q1).2 kdj m1
                              subst this; exact hun (.inr (.inl (by simpa using q3)))
                            · exact hun (.inr (.inl (by simpa using htrans j' ids' m0 i j' j q3 h1)))
                          · rcases htouch j' ej' id (hte j' ej' q1).2 q2 with ⟨d', m1, m2, m3, m4⟩ | ⟨_, m3, _⟩
                            · have hdd : d = d' := by omega
                              subst hdd
                              have := huniq j j' ej ej' d hj (hte j' ej' q1).2 kdj m1
                              subst this; exact hun (.inr (.inl (by simpa using q3)))
                            · rcases m3 with m3 | ⟨c, oc, dc, c1, c2, c3, c4, c5⟩
                              · rw [k4] at m3; cases m3
                              · have := hcreat j ej id d hj kdj k2 k3 c oc dc c2 c3 c4 c5
                                subst this
                                have hj'n : j' < n := by rw [← hlen]; exact (List.getElem?_eq_some_iff.1 (hte j' ej' q1).2).1
                                have l1 := hdeps_ltn j' c hj'n c1
                                have l2 := hdeps_ltn c j' hjn h1
                                omega
                        · exact hs k4
                      · exact hnbad (mem_badObjs k1 k2 hun)
                  rcases last_touch (fun x => ((allDeps ops.toList []).getD i []).contains x) id (ents.take i) with ⟨j, ej, o2, h1, h2, h3, h4⟩ | hnone
                  · have e1 := mkSt_obj_some (fun x => ((allDeps ops.toList []).getD i []).contains x) id o2 (ents.take i) 0 { st with tmps := dels (badFrom (allDeps ops.toList []) i 0 ops.toList) st.tmps } j ej (fun i' e' hi' hd' hlt => by rw [Nat.zero_add]; exact h4 i' e' hi' hd' hlt) h1 h2 (by rw [Nat.zero_add]; exact h3)
                    rw [e1] at hob'; cases hob'
                    refine mkSt_obj_some (fun i => listed.getD i false) id ob ents 0 st j ej (fun i' e' hi' hd' hlt => ?_) (hte j ej h1).2 h2 (by rw [Nat.zero_add]; exact hDl j (by simpa using h3))
                    rw [Nat.zero_add]
                    cases hl' : listed.getD i' false with
                    | false => rfl
                    | true =>
                      have hw := hwait i' e' hi' hd' hl' (.inl ⟨j, ej, h1, by rw [h2]; rfl, by simpa using h3⟩)
                      have hlt' := hdeps_lt i i' hw hilt
                      have := h4 i' e' (by rw [List.getElem?_take, if_pos hlt']; exact hi') hd' hlt
                      simp only [List.contains_eq_mem, decide_eq_false_iff_not] at this
                      exact absurd hw this
                  · rw [mkSt_obj_none (fun x => ((allDeps ops.toList []).getD i []).contains x) id (ents.take i) 0 _ (fun j ej hj hd => by rw [Nat.zero_add]; exact hnone j ej hj hd)] at hob'
                    rw [mkSt_obj_none (fun i => listed.getD i false) id ents 0 st (fun j ej hj hd => by
                      rw [Nat.zero_add]
                      cases hl' : listed.getD j false with
                      | false => rfl
                      | true =>
                        have hw := hwait j ej hj hd hl' (.inr (by rw [show look id st.objs = some ob from hob']; simp))
                        have := hnone j ej (by rw [List.getElem?_take, if_pos (hdeps_lt i j hw hilt)]; exact hj) hd
                        simp only [List.contains_eq_mem, decide_eq_false_iff_not] at this
                        exact absurd hw this)]
                    exact hob'
            -- i's own objects are new
            have hfreshi : ∀ x ∈ en.new, (look x.1 (viewSt ops.toList (allDeps ops.toList []) eff st i (ents.take i)).objs).isSome = true ∨ look x.1 (mkSt (fun i => listed.getD i false) 0 ents st).objs = none := by
              intro x hx
              have hxs : (look x.1 en.new).isSome = true := look_some_mem.2 ⟨x.2, hx⟩
              rcases htouch i en x.1 g2 hxs with ⟨d, k1, k2, k3, k4⟩ | ⟨_, _, k4⟩
              · refine .inr ?_
                rw [mkSt_obj_none (fun i => listed.getD i false) x.1 ents 0 st (fun j ej hj hd => by
                  rw [Nat.zero_add]
                  rcases htouch j ej x.1 hj hd with ⟨d', m1, m2, m3, m4⟩ | ⟨_, m3, _⟩
                  · have hdd : d = d' := by omega
                    subst hdd
                    rw [huniq j i ej en d hj g2 m1 k1]; exact hli
                  · rcases m3 with m3 | ⟨c, oc, dc, c1, c2, c3, c4, c5⟩
                    · rw [k4] at m3; cases m3
                    · have := hcreat i en x.1 d g2 k1 k2 k3 c oc dc c2 c3 c4 c5
                      subst this
                      cases hlj : listed.getD j false with
                      | false => rfl
                      | true => exact absurd c1 (hnotin j hlj))]
                exact k4
              · exact .inl k4
            -- what stands behind it
            have hnext : ∀ (a2 : Act) (w2 : World) (e2 : Env) (v : Value), Conc { mkSt (fun i => listed.getD i false) 0 ents st with objs := en.new ++ (mkSt (fun i => listed.getD i false) 0 ents st).objs } a2 w2 e2 → Fr w e w2 e2 → Rd w2 e2 en.r v → wpAnyIn (FR rd) 0 P .any ops Q fuel (listed.setIfInBounds i true) (a2.put o'.dst v) w2 := by
              intro a2 w2 e2 v hc2 hf2 hr2
              refine ih _ _ w2 (hsetsz i) (hsetcount i hilt hli) (hsetcl i o' ho hdl) (.inl ⟨fun k hk => ?_, e2, ?_, hf2⟩)
              · rw [hsetget i k hilt, if_neg (by omega)]; exact hnt k hk
              · have hput := hc2.put (dst := o'.dst) hr2 (fun d hd => by
                  have := hdst o' (by rw [Array.mem_toList_iff]; exact Array.mem_of_getElem? ho) d hd
                  simpa [mkSt_nt] using this)
                refine hput.congr (fun t => ?_) (fun id => ?_) ?_
                · by_cases hti : en.dst = some t
                  · rw [mkSt_tmp_some (fun j => (listed.setIfInBounds i true).getD j false) t ents 0 st i en (fun i' e' hi' hd' => huniq i' i e' en t hi' g2 hd' hti) g2 hti (by rw [Nat.zero_add, hsetget i i hilt]; simp)]
                    rw [← g3, hti]
                    simp [St.put, look_upd]
                  · have hput2 : look t ({ mkSt (fun i => listed.getD i false) 0 ents st with objs := en.new ++ (mkSt (fun i => listed.getD i false) 0 ents st).objs }.put o'.dst en.r : St).tmps = look t (mkSt (fun i => listed.getD i false) 0 ents st).tmps := by
                      rw [← g3]
                      cases hd : en.dst with
                      | none => rfl
                      | some d =>
                        simp only [St.put, look_upd]
                        rw [if_neg (by intro hdt; subst hdt; exact hti hd)]
                    rw [hput2]
                    by_cases hex : ∃ j ej, ents[j]? = some ej ∧ ej.dst = some t ∧ listed.getD j false = true
                    · obtain ⟨j, ej, h1, h2, h3⟩ := hex
                      rw [mkSt_tmp_some (fun j => (listed.setIfInBounds i true).getD j false) t ents 0 st j ej (fun i' e' hi' hd' => huniq i' j e' ej t hi' h1 hd' h2) h1 h2 (by rw [Nat.zero_add, hsetget i j hilt]; exact (if hij : i = j then (if_pos hij).trans rfl else (if_neg hij).trans h3)),
                        mkSt_tmp_some (fun j => listed.getD j false) t ents 0 st j ej (fun i' e' hi' hd' => huniq i' j e' ej t hi' h1 hd' h2) h1 h2 (by rw [Nat.zero_add]; exact h3)]
                    · rw [mkSt_tmp_none (fun j => (listed.setIfInBounds i true).getD j false) t ents 0 st (fun j ej hj hd => by
                          rw [Nat.zero_add, hsetget i j hilt]
                          by_cases hij : i = j
                          · subst hij; rw [g2] at hj; cases hj; exact absurd hd hti
                          · rw [if_neg hij]
                            cases hlj : listed.getD j false with
                            | false => rfl
                            | true => exact absurd ⟨j, ej, hj, hd, hlj⟩ hex),
                        mkSt_tmp_none (fun j => listed.getD j false) t ents 0 st (fun j ej hj hd => by
                          rw [Nat.zero_add]
                          cases hlj : listed.getD j false with
                          | false => rfl
                          | true => exact absurd ⟨j, ej, hj, hd, hlj⟩ hex)]
                · have hput2 : look id ({ mkSt (fun i => listed.getD i false) 0 ents st with objs := en.new ++ (mkSt (fun i => listed.getD i false) 0 ents st).objs }.put o'.dst en.r : St).objs = look id (en.new ++ (mkSt (fun i => listed.getD i false) 0 ents st).objs) := by
                    cases o'.dst <;> rfl
                  rw [hput2, look_append]
                  cases hin' : look id en.new with
                  | some ob =>
                    simp only
                    refine (mkSt_obj_some (fun j => (listed.setIfInBounds i true).getD j false) id ob ents 0 st i en (fun i' e' hi' hd' hlt => ?_) g2 hin' (by rw [Nat.zero_add, hsetget i i hilt]; simp))
                    rw [Nat.zero_add, hsetget i i' hilt, if_neg (by omega)]
                    cases hl' : listed.getD i' false with
                    | false => rfl
                    | true =>
                      exfalso
                      rcases hord i i' en e' id g2 hi' (by rw [hin']; rfl) hd' with h1 | h1 | h1
                      · omega
                      · exact hnotin i' hl' h1
                      · have := hdeps_lt i i' h1 hilt; omega
                  | none =>
                    simp only
                    rcases last_touch (fun j => listed.getD j false) id ents with ⟨j, ej, o2, h1, h2, h3, h4⟩ | hnone
                    · have hji : j ≠ i := by intro hji; subst hji; rw [g2] at h1; cases h1; rw [hin'] at h2; cases h2
                      rw [mkSt_obj_some (fun j => listed.getD j false) id o2 ents 0 st j ej (fun i' e' hi' hd' hlt => by rw [Nat.zero_add]; exact h4 i' e' hi' hd' hlt) h1 h2 (by rw [Nat.zero_add]; exact h3)]
                      refine (mkSt_obj_some (fun j => (listed.setIfInBounds i true).getD j false) id o2 ents 0 st j ej (fun i' e' hi' hd' hlt => ?_) h1 h2 (by rw [Nat.zero_add, hsetget i j hilt, if_neg (Ne.symm hji)]; exact h3))
                      rw [Nat.zero_add, hsetget i i' hilt]
                      rw [if_neg (by intro hii; subst hii; rw [g2] at hi'; cases hi'; rw [hin'] at hd'; cases hd')]
                      exact h4 i' e' hi' hd' hlt
                    · rw [mkSt_obj_none (fun j => listed.getD j false) id ents 0 st (fun j ej hj hd => by rw [Nat.zero_add]; exact hnone j ej hj hd)]
                      refine (mkSt_obj_none (fun j => (listed.setIfInBounds i true).getD j false) id ents 0 st (fun j ej hj hd => ?_))
                      rw [Nat.zero_add, hsetget i j hilt]
                      rw [if_neg (by intro hii; subst hii; rw [g2] at hj; cases hj; rw [hin'] at hd; cases hd)]
                      exact hnone j ej hj hd
                · rw [put_nt]; simp [mkSt_nt]
            simp only [wpOpIn, ho]
            rw [wantedA_ok g4 (hsub.view c1)]
            cases t with
            | true =>
              simp only [if_true]
              exact (g5 rfl _ rd a' w' e' c1 hsub hfreshi _ _ fun v w2 e2 h1 h2 h3 => hnext a' w2 e2 v h1 (f1.trans h2) h3)
            | false =>
              simp only [Bool.false_eq_true, if_false]
              obtain ⟨q1, q2⟩ := g6 rfl
              refine ⟨fun _ _ => trivial, hnext a' w' e' undef ?_ f1 (by rcases q1 with q1 | q1 <;> rw [q1]; exact .dead _; exact .data (.val _))⟩
              rw [q2]; simpa using c1
          · -- the tail begins
            have hnl : ∀ j, j < ops.size → listed.getD j false = decide (j < n) := by
              intro j hj
              by_cases hjn : j < n
              · have hni : n = i := by
                  rcases Nat.lt_or_ge n i with h2 | h2
                  · exfalso
                    have := (ktail i hilt).resolve_left (by omega) n h2
                    have h3 := hDl n this
                    rw [hnt n (Nat.le_refl _)] at h3; cases h3
                  · omega
                have := (ktail i hilt).resolve_left (by omega) j (by omega)
                rw [hDl j this]; simp [hjn]
              · rw [hnt j (by omega)]; simp [hjn]
            have hm := mkSt_all ents st 0 (fun i => listed.getD i false) (fun j hj => by rw [Nat.zero_add, hnl j (by omega)]; simp; omega)
            rw [hm] at c1
            exact tailstep n (Nat.le_refl _) hnl _ e' htail c1 f1
        · exact tailstep k hk hkl s e' hW c1 f1
  refine key ops.size (Array.replicate ops.size false) a w (by simp) ?_ (fun i o ho hl => ?_) (.inl ⟨fun k _ => ?_, e, ?_, Fr.refl w e⟩)
  · exact Nat.le_trans (List.length_filter_le _ _) (by simp)
  · exfalso
    have : i < ops.size := (Array.getElem?_eq_some_iff.1 ho).1
    simp [this] at hl
  · by_cases hk : k < ops.size <;> simp [hk]
  · have hnone : ∀ i, (Array.replicate ops.size false).getD i false = false := fun i => by
      by_cases hk : i < ops.size <;> simp [hk]
    refine hc.congr (fun t => mkSt_tmp_none _ t ents 0 st fun j ej _ _ => hnone _) (fun id => mkSt_obj_none _ id ents 0 st fun j ej _ _ => hnone _) (mkSt_nt _ _ _ _)

theorem Conc.drew {st : St} {a : Act} {w : World} {e : Env} (h : Conc st a w e) : Conc st a w.drew e ∧ Fr w e w.drew e := by
  have hf : Fr w e w.drew e := ⟨rfl, rfl, rfl, Nat.le_refl _, fun _ _ _ => rfl, fun _ ho _ => ho, rfl, .refl e⟩
  exact ⟨⟨⟨h.sim.dom, h.sim.inj, fun id o m ho hm => (h.sim.obj id o m ho hm).fr hf (fun _ _ => rfl) (fun _ _ => rfl), h.sim.prok, h.sim.new⟩, h.defers.fr hf, h.size, fun t x hx => let ⟨v, hv, hr⟩ := h.tmp t x hx; ⟨v, hv, hr.fr hf fun _ _ => rfl⟩⟩, hf⟩

theorem W.draw [M : Mode] (hm : P.follows .mixedOrders = true) {id : Nat} {ops : Array Oper} {st : St} {Q : Exit → St → Prop} (n : Nat) (eff : List (Nat × List Nat)) (hok : (drawOk ops.toList (allDeps ops.toList []) n st.nt && freshOk ops.toList st.objs && decide (n ≤ ops.size)) = true)
    (heff : effOk ops.toList (allDeps ops.toList []) eff st.objs = true) (h : WDraw P ops.toList (allDeps ops.toList []) eff st (Q .normal) n ops.toList 0 []) : W P (.region id ops true) st Q := by
  simp only [Bool.and_eq_true, decide_eq_true_eq] at hok
  intro rd a w e hc
  refine wpIn_region_any hm ?_
  obtain ⟨c1, f1⟩ := hc.drew
  exact draw_sound heff hok.1.1 hok.1.2 hok.2 h c1 fun st' a' w' e' h1 h2 h3 => ⟨st', e', h1, f1.trans h2, h3⟩
#print axioms W.draw
end
end Go.Sim
