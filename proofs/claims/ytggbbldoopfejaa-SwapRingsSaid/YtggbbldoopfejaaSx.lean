/- append within regions that draw their order: on a row whose elder name dies, and on a row of known room, whose elder views stay. -/
import Derived.Test.YtggbbldoopfejaaSu
namespace Go.Sim
open Go.RowKit
section
variable {P : Program} {Γ : TypeId → Option TI}

theorem Rd.evolveX {w w' : World} {e e' : Env} (hq : ∀ b, e.q b → b < w.heap.size → w'.heap[b]? = w.heap[b]? ∧ e'.q b) {x : AV} {v : Value} (h : Rd w e x v) :
    (∀ id m, x.men id = true → e.get id = some m → e'.get id = some m ∨ ∃ m', e'.get id = some m' ∧ m'.gone) → Rd w' e' x v := by
  induction h with
  | dead v => exact fun _ => .dead v
  | data h => exact fun _ => .data (h.evolve hq)
  | own0 id m hm hb a =>
    intro hg
    rcases hg id m (by simp [AV.men]) hm with h | ⟨m', h, g⟩
    · exact .own0 id m h hb a
    · exact .ownX id 0 0 m' h g a 0 (by simp) (Nat.le_refl _)
  | own id off len m b hm hb hc =>
    intro hg
    rcases hg id m (by simp [AV.men]) hm with h | ⟨m', h, g⟩
    · exact .own id off len m b h hb hc
    · exact .ownX id off len m' h g _ _ (fun _ => rfl) (by omega)
  | ownX id off len m hm hgo a cap ha hc =>
    intro hg
    rcases hg id m (by simp [AV.men]) hm with h | ⟨m', h, g⟩
    · exact .ownX id off len m h hgo a cap ha hc
    · exact .ownX id off len m' h g a cap ha hc
  | ptr id i off m b hm hb =>
    intro hg
    rcases hg id m (by simp [AV.men]) hm with h | ⟨m', h, g⟩
    · exact .ptr id i off m b h hb
    · exact .ptrX id i off m' h g _
  | ptrX id i off m hm hgo a =>
    intro hg
    rcases hg id m (by simp [AV.men]) hm with h | ⟨m', h, g⟩
    · exact .ptrX id i off m h hgo a
    · exact .ptrX id i off m' h g a
  | iptr l b off vals hne hqb hc hr =>
    intro _
    exact (Rd.iptr l b off vals hne hqb hc hr).evolve hq (by
      intro id hid; simp [AV.men] at hid)
  | map id m b hm hb =>
    intro hg
    rcases hg id m (by simp [AV.men]) hm with h | ⟨m', h, g⟩
    · exact .map id m b h hb
    · exact .mapX id m' h g b
  | yld id m b hm hb =>
    intro hg
    rcases hg id m (by simp [AV.men]) hm with h | ⟨m', h, g⟩
    · exact .yld id m b h hb
    · exact .yldX id m' h g b
  | mapX id m hm hgo b =>
    intro hg
    rcases hg id m (by simp [AV.men]) hm with h | ⟨m', h, g⟩
    · exact .mapX id m h hgo b
    · exact .mapX id m' h g b
  | yldX id m hm hgo b =>
    intro hg
    rcases hg id m (by simp [AV.men]) hm with h | ⟨m', h, g⟩
    · exact .yldX id m h hgo b
    · exact .yldX id m' h g b
  | clo f l vs hs hr ih => exact fun hg => .clo f l vs hs fun i x v hx hv => ih i x v hx hv fun id m hid => hg id m (by simp only [AV.men]; exact AV.menL_of (List.mem_of_getElem? hx) hid)
  | agg l vs hs hr ih => exact fun hg => .agg l vs hs fun i x v hx hv => ih i x v hx hv fun id m hid => hg id m (by simp only [AV.men]; exact AV.menL_of (List.mem_of_getElem? hx) hid)
  | tup l vs hs hr ih => exact fun hg => .tup l vs hs fun i x v hx hv => ih i x v hx hv fun id m hid => hg id m (by simp only [AV.men]; exact AV.menL_of (List.mem_of_getElem? hx) hid)

theorem Obj.map_self (o : Obj) : o.map (fun x => x) = o := by
  cases o with
  | row d ty sz els =>
    cases d with
    | true => rfl
    | false =>
      simp only [Obj.map, Obj.row.injEq, true_and]
      conv => rhs; rw [← List.map_id els]
      refine List.map_congr_left fun x _ => ?_
      cases x <;> simp [AV.mapCells]
  | _ => rfl

/-- the row of what append gives -/
theorem Appended.row {w w' : World} {e e' : Env} {ty : TypeId} {sz : Nat} {els l : List AV} {own : Option Nat} {olds news : List Value} {v' : Value} {g cap' : Nat} {cur' : Array Value}
    (ha : Appended w w' ty sz els.length l.length own olds news v' g cap' cur') (hfr : Fr w e w' e') (hcells : ∀ x ∈ els ++ l, x.cells.length = sz) (holen : olds.length = els.length * sz)
    (hold : ∀ (i : Nat) (x : AV), els[i]? = some x → ∀ (j : Nat) (y : AV), x.cells[j]? = some y → ∃ v, olds[i * sz + j]? = some v ∧ v.oneCell' = true ∧ RdD w e.q y v)
    (hnew : ∀ (i : Nat) (x : AV), l[i]? = some x → ∀ (j : Nat) (y : AV), x.cells[j]? = some y → ∃ v, news[i * sz + j]? = some v ∧ v.oneCell' = true ∧ RdD w e.q y v) :
    RowOk w' e' (mt (some g) cap' sz) true ty sz (els ++ l) := by
  refine ⟨rfl, by rw [List.length_append]; exact ha.fits, ha.cap, hcells, fun _ h => h, cur', ha.blk, ha.size, fun i x hx j y hy => ?_⟩
  have hi : i < els.length + l.length := by have := (List.getElem?_eq_some_iff.1 hx).1; simpa using this
  have hj : j < sz := by rw [← hcells x (List.mem_of_getElem? hx)]; exact (List.getElem?_eq_some_iff.1 hy).1
  have hlt : i * sz + j < (els.length + l.length) * sz := by
    have : (i + 1) * sz ≤ (els.length + l.length) * sz := Nat.mul_le_mul_right _ hi
    rw [Nat.add_mul, Nat.one_mul] at this; omega
  rw [ha.con _ hlt]
  by_cases hlo : i < els.length
  · rw [List.getElem?_append_left hlo] at hx
    obtain ⟨v, g1, g2, g3⟩ := hold i x hx j y hy
    refine ⟨v, ?_, g2, by simp only [CellRd, if_true]; exact g3.fr hfr⟩
    rw [List.getElem?_append_left (List.getElem?_eq_some_iff.1 g1).1]; exact g1
  · rw [List.getElem?_append_right (by omega)] at hx
    obtain ⟨v, g1, g2, g3⟩ := hnew (i - els.length) x hx j y hy
    refine ⟨v, ?_, g2, by simp only [CellRd, if_true]; exact g3.fr hfr⟩
    have h1 : i * sz = els.length * sz + (i - els.length) * sz := by rw [← Nat.add_mul]; congr 1; omega
    rw [List.getElem?_append_right (by omega), ← g1]; congr 1; omega

/-- An object goes over to a new name; the elder name stays, and points anywhere. -/
theorem Conc.movedM {st : St} {a : Act} {w w' : World} {e : Env} (h : Conc st a w e) {id nid : Nat} (hu : unp id = true) (hun : unp nid = true) (hne : nid ≠ id) (hno : look nid st.objs = none) (hid : (look id st.objs).isSome = true) (m : Mta) (o' : Obj)
    (hos : w'.os = w.os) (hta : w'.tape = w.tape) (hou : w'.output = w.output) (hgrow : w.heap.size ≤ w'.heap.size) (hg : ∀ b, m.has b → (∃ m0, e.get id = some m0 ∧ m0.has b) ∨ w.heap.size ≤ b)
    (hkeep : ∀ k, k < w.heap.size → (∀ m0, e.get id = some m0 → ¬ m0.has k) → w'.heap[k]? = w.heap[k]?) (hobj : ∀ e', Fr w e w' e' → e'.get nid = some m → ObjOk w' e' m o') :
    ∃ e', Conc { st with objs := [(nid, o'), (id, .gone)] ++ st.objs } a w' e' ∧ Fr w e w' e' ∧ e'.get nid = some m := by
  let gm : Mta := mt none 1 0
  have hgn : e.get nid = none := get_none h hno
  let e' : Env := { e with get := fun j => if j = nid then some m else if j = id then some gm else e.get j }
  have hget : ∀ j, e'.get j = if j = nid then some m else if j = id then some gm else e.get j := fun _ => rfl
  have hgm : ∀ b, ¬ gm.has b := fun b hb => by rcases hb with hb | hb <;> cases hb
  have hfr : Fr w e w' e' := by
    refine ⟨hos, hta, hou, hgrow, fun b hb hn => hkeep b hb (fun m0 h1 h2 => hn ⟨id, m0, h1, h2⟩), fun b ho hb => ?_, rfl, Pinned.of fun j hj => ?_⟩
    · obtain ⟨j, mj, hj, hm⟩ := ho
      rw [hget] at hj
      split at hj
      · cases hj
        rcases hg b hm with ⟨m0, h1, h2⟩ | h1
        · exact ⟨id, m0, h1, h2⟩
        · omega
      · split at hj
        · cases hj; exact absurd hm (hgm b)
        · exact ⟨j, mj, hj, hm⟩
    · rw [hget, if_neg (unp_ne hun hj), if_neg (unp_ne hu hj)]
  have hT : Turns w e w' e' (fun x => x) := by
    intro x v hx
    refine hx.evolveX hfr.q fun j mj hmen hj => ?_
    rw [hget]
    by_cases h1 : j = nid
    · subst h1; rw [hgn] at hj; cases hj
    · rw [if_neg h1]
      by_cases h2 : j = id
      · rw [if_pos h2]; exact .inr ⟨gm, rfl, rfl, rfl⟩
      · rw [if_neg h2]; exact .inl hj
  have hoth : ∀ b, m.has b → ∀ j mj, j ≠ id → e.get j = some mj → ¬ mj.has b := by
    intro b hb0 j mj hj hm hb
    rcases hg b hb0 with ⟨m0, h1, h2⟩ | h1
    · exact hj (h.sim.inj j id mj m0 b hm h1 hb h2)
    · have := h.sim.blk_lt hm hb; omega
  refine ⟨e', ⟨⟨fun j => ?_, fun i j mi mj b hi hj hb hb' => ?_, fun j o mj ho hm => ?_, fun b hb => ?_, fun b hb => h.sim.new b (Nat.le_trans hgrow hb)⟩, h.defers.fr hfr, h.size, fun t x hx => ?_⟩, hfr, by simp [hget]⟩
  · simp only [hget, List.cons_append, List.nil_append, look]
    by_cases h1 : nid = j
    · subst h1; simp
    · rw [if_neg (Ne.symm h1), if_neg h1]
      by_cases h2 : id = j
      · subst h2; simp
      · rw [if_neg (Ne.symm h2), if_neg h2]; exact h.sim.dom j
  · rw [hget] at hi hj
    by_cases h1 : i = nid <;> by_cases h2 : j = nid
    · rw [h1, h2]
    · rw [if_pos h1] at hi; rw [if_neg h2] at hj
      cases hi
      by_cases h3 : j = id
      · rw [if_pos h3] at hj; cases hj; exact absurd hb' (hgm _)
      · rw [if_neg h3] at hj; exact absurd hb' (hoth b hb j mj h3 hj)
    · rw [if_neg h1] at hi; rw [if_pos h2] at hj
      cases hj
      by_cases h3 : i = id
      · rw [if_pos h3] at hi; cases hi; exact absurd hb (hgm _)
      · rw [if_neg h3] at hi; exact absurd hb (hoth b hb' i mi h3 hi)
    · rw [if_neg h1] at hi; rw [if_neg h2] at hj
      by_cases h3 : i = id
      · rw [if_pos h3] at hi; cases hi; exact absurd hb (hgm _)
      · by_cases h4 : j = id
        · rw [if_pos h4] at hj; cases hj; exact absurd hb' (hgm _)
        · rw [if_neg h3] at hi; rw [if_neg h4] at hj; exact h.sim.inj i j mi mj b hi hj hb hb'
  · simp only [List.cons_append, List.nil_append, look] at ho
    rw [hget] at hm
    by_cases h1 : nid = j
    · rw [if_pos h1] at ho; rw [if_pos h1.symm] at hm
      cases ho; cases hm
      exact hobj e' hfr (by simp [hget])
    · rw [if_neg h1] at ho; rw [if_neg (Ne.symm h1)] at hm
      by_cases h2 : id = j
      · rw [if_pos h2] at ho; rw [if_pos h2.symm] at hm
        cases ho; cases hm
        exact ⟨⟨rfl, rfl⟩, fun _ h => h⟩
      · rw [if_neg h2] at ho; rw [if_neg (Ne.symm h2)] at hm
        have := hT.obj (fun x hx => hx) hfr.q (h.sim.obj j o mj ho hm) hfr.size ⟨hfr.os, hfr.tape, hfr.output⟩ (fun b hb => hkeep b (h.sim.blk_lt hm hb) (fun m0 g1 g2 => h2 (h.sim.inj j id mj m0 b hm g1 hb g2).symm))
        rwa [Obj.map_self] at this
  · obtain ⟨j, mj, hj, hb'⟩ := hb
    rw [hget] at hj
    split at hj
    · cases hj
      rcases hg b hb' with ⟨m0, h1, h2⟩ | h1
      · exact h.sim.prok b ⟨id, m0, h1, h2⟩
      · exact h.sim.new b h1
    · split at hj
      · cases hj; exact absurd hb' (hgm b)
      · exact h.sim.prok b ⟨j, mj, hj, hb'⟩
  · obtain ⟨v, hv, hr⟩ := h.tmp t x hx
    exact ⟨v, hv, hT _ _ hr⟩

/-- From what append gave to the state behind it: the new row under a name of its own. -/
theorem Conc.moved {st : St} {a : Act} {w w' : World} {e : Env} (h : Conc st a w e) {id nid : Nat} (hu : unp id = true) (hun : unp nid = true) (hne : nid ≠ id) (hno : look nid st.objs = none) (hid : (look id st.objs).isSome = true)
    {ty : TypeId} {sz : Nat} {els l : List AV} {own : Option Nat} {olds news : List Value} {v' : Value} {g cap' : Nat} {cur' : Array Value}
    (ha : Appended w w' ty sz els.length l.length own olds news v' g cap' cur') (hcells : ∀ x ∈ els ++ l, x.cells.length = sz)
    (hown : ∀ b, own = some b → ∃ m, e.get id = some m ∧ m.blk = some b) (holen : olds.length = els.length * sz)
    (hold : ∀ (i : Nat) (x : AV), els[i]? = some x → ∀ (j : Nat) (y : AV), x.cells[j]? = some y → ∃ v, olds[i * sz + j]? = some v ∧ v.oneCell' = true ∧ RdD w e.q y v)
    (hnew : ∀ (i : Nat) (x : AV), l[i]? = some x → ∀ (j : Nat) (y : AV), x.cells[j]? = some y → ∃ v, news[i * sz + j]? = some v ∧ v.oneCell' = true ∧ RdD w e.q y v) :
    ∃ e', Conc { st with objs := [(nid, .row true ty sz (els ++ l)), (id, .gone)] ++ st.objs } a w' e' ∧ Fr w e w' e' ∧ Rd w' e' (.own nid 0 (els ++ l).length) v' := by
  obtain ⟨e', q1, q2, q3⟩ := h.movedM hu hun hne hno hid (mt (some g) cap' sz) (.row true ty sz (els ++ l)) ha.os ha.tape ha.output ha.grow (fun b hb => by
      have hb' := Mta.has_mk.1 hb
      cases hb'
      rcases ha.at_ with h1 | h1
      · obtain ⟨m0, g1, g2⟩ := hown g h1.symm; exact .inl ⟨m0, g1, .inl g2⟩
      · exact .inr h1)
    (fun k hk hn => ha.keep k hk fun hko => by
      obtain ⟨m0, h1, h2⟩ := hown k hko.symm
      exact hn m0 h1 (.inl h2))
    (fun e' hfr _ => ha.row hfr hcells holen hold hnew)
  refine ⟨e', q1, q2, ?_⟩
  have hfit := ha.fits
  have := Rd.own (w := w') (e := e') nid 0 (els ++ l).length _ g q3 rfl (by simpa using hfit)
  rw [ha.val]
  simpa [List.length_append] using this

/-- append in place -/
theorem run_append_in {w : World} {t ty : TypeId} {ti te : TI} (hti : TIOk P t ti) (hd : ti.desc = .slice ty) (hte : TIOk P ty te) (rt : TypeId) {b n cap m c : Nat} {cur : Array Value} {ad : Addr} {olds news : List Value}
    (hb : w.heap[b]? = some (.cells cur ty (0, 0))) (hcs : cur.size = cap * te.size) (hcm : cap ≤ maxLen) (ho : cur.toList.take (n * te.size) = olds)
    (hl : news.length = m * te.size) (hnews : ∀ (j : Nat) (u : Value), news[j]? = some u → w.cell? (ad.add j) = some u) (h1 : ∀ u ∈ news, u.oneCell' = true) (hroom : n + m ≤ cap) :
    ∃ w' cur', (Builtin.append_ #[t, t] rt #[.slice (some ⟨b, 0, none⟩) n cap, .slice (some ad) m c]).run P w = .ok (.slice (some ⟨b, 0, none⟩) (n + m) cap) w' ∧
      Appended w w' ty te.size n m (some b) olds news (.slice (some ⟨b, 0, none⟩) (n + m) cap) b cap cur' := by
  obtain ⟨k, hk, hks, hkb, hkz⟩ := hte.parts
  have hu : P.underlying t = some (.slice ty) := by rw [hti.und, hd]
  have hnc : n ≤ cap := by omega
  have holen : olds.length = n * te.size := by
    rw [← ho, List.length_take, Array.length_toList, hcs, Nat.min_eq_left]; exact Nat.mul_le_mul_right _ hnc
  have hfit : n * te.size + news.length ≤ cur.size := by rw [hl, hcs, ← Nat.add_mul]; exact Nat.mul_le_mul_right _ hroom
  have hr := run_append_room (P := P) w t rt ty k hu hk b n cap cur hb ad m c news (by rw [hks]; exact hl) hnews h1 hroom (by rw [hks]; exact hfit)
  rw [hks] at hr
  refine ⟨_, _, hr, rfl, setRow_heap w b cur _ ty _ hb, ?_, hroom, hcm, .inl rfl, fun p hp => ?_, rfl, rfl, rfl, by simp, fun q _ hq => setRow_other w b q _ (fun e => hq (by rw [e]))⟩
  · simp only [List.size_toArray, List.length_append, List.length_take, List.length_drop, Array.length_toList]; omega
  · rw [ho, List.getElem?_toArray, List.getElem?_append_left]
    rw [List.length_append, holen, hl, ← Nat.add_mul]; exact hp
/-- append to a new block -/
theorem run_append_out {w : World} {t ty : TypeId} {ti te : TI} (hti : TIOk P t ti) (hd : ti.desc = .slice ty) (hte : TIOk P ty te) (rt : TypeId) {b n cap m c : Nat} {cur : Array Value} {ad : Addr} {olds news : List Value}
    (hb : w.heap[b]? = some (.cells cur ty (0, 0))) (hcs : cur.size = cap * te.size) (hnc : n ≤ cap) (ho : cur.toList.take (n * te.size) = olds)
    (hl : news.length = m * te.size) (hnews : ∀ (j : Nat) (u : Value), news[j]? = some u → w.cell? (ad.add j) = some u) (hbytes : (n + m) * te.bytes ≤ 140737488355328) (h63 : n + m ≤ maxLen) (hroom : ¬ n + m ≤ cap) :
    ∃ v' w' g cap' cur', (Builtin.append_ #[t, t] rt #[.slice (some ⟨b, 0, none⟩) n cap, .slice (some ad) m c]).run P w = .ok v' w' ∧ Appended w w' ty te.size n m none olds news v' g cap' cur' := by
  obtain ⟨k, hk, hks, hkb, hkz⟩ := hte.parts
  have hu : P.underlying t = some (.slice ty) := by rw [hti.und, hd]
  have holen : olds.length = n * te.size := by
    rw [← ho, List.length_take, Array.length_toList, hcs, Nat.min_eq_left]; exact Nat.mul_le_mul_right _ hnc
  have holds : ∀ (j : Nat) (u : Value), olds[j]? = some u → w.cell? ((⟨b, 0, none⟩ : Addr).add j) = some u := by
    intro j u hj
    rw [addr_add, Nat.zero_add, cell_of_row w b j cur ty (0, 0) hb]
    rw [← ho, List.getElem?_take] at hj
    split at hj
    · simpa using hj
    · cases hj
  have hsmall : n + m ≤ 9223372036854775807 := by simp only [maxLen] at h63; omega
  have hr := run_append_grow (P := P) w t rt ty k te.zero hu hk hkz ⟨b, 0, none⟩ n cap olds (by rw [hks]; exact holen) holds ad m c news (by rw [hks]; exact hl) hnews (by omega) (by omega) (growslice_fits (by omega) (by rw [hkb]; exact hbytes))
  have hge := grownCap_ge w (n + m) cap ty
  refine ⟨_, _, w.heap.size, _, _, hr, rfl, heap_alloc_new w.drew _, ?_, hge, grownCap_le_maxLen w (n + m) cap ty h63, .inr (Nat.le_refl _), fun p hp => ?_, rfl, rfl, rfl, by simp, fun q hq _ => heap_alloc_old w.drew _ q hq⟩
  · simp only [Array.size_append, List.size_toArray, size_zeroCells, hte.zsz, holen, hl, ← Nat.add_mul]
    congr 1; omega
  · have hlen : (olds ++ news).length = (n + m) * te.size := by rw [List.length_append, holen, hl, Nat.add_mul]
    rw [Array.getElem?_append_left (by simp only [Array.size_append, List.size_toArray]; rw [List.length_append] at hlen; omega), List.append_toArray, List.getElem?_toArray]

/-- append in a drawn region: what it gives, what it makes and turns -/
def St.appQ (st : St) (te : TI) (ty : TypeId) (nid : Nat) (s x : AV) : Option (AV × List (Nat × Obj)) :=
  if 0 < te.size then
  match st.srcA te.size x with
  | some l => match s with
    | .own id 0 len => match look id st.objs with
      | some (.row true ty' sz els) => if ty' = ty ∧ sz = te.size ∧ len = els.length ∧ capOk (els.length + l.length) te.bytes = true ∧ unp nid = true ∧ unp id = true ∧ nid ≠ id then
          some (.own nid 0 (els ++ l).length, [(nid, .row true ty sz (els ++ l)), (id, .gone)]) else none
      | some (.fix ty' sz cap els) => if ty' = ty ∧ sz = te.size ∧ len = els.length ∧ l ≠ [] ∧ capOk (els.length + l.length) te.bytes = true ∧ unp nid = true then
          (if els.length + l.length ≤ cap then some (.own id 0 (els ++ l).length, [(id, .fix ty sz cap (els ++ l))]) else some (.own nid 0 (els ++ l).length, [(nid, .row true ty sz (els ++ l))])) else none
      | _ => none
    | .val (.slice none 0 0) => if l ≠ [] ∧ capOk l.length te.bytes = true ∧ unp nid = true then some (.own nid 0 l.length, [(nid, .row true ty te.size l)]) else none
    | _ => none
  | none => none
  else none
noncomputable def evalApp (Γ : TypeId → Option TI) (o : Oper) (st : St) : Option (AV × List (Nat × Obj)) :=
  match o.op with
  | .call { callee := .builtin b, args, argTypes } => match b, args.toList, argTypes.toList with
    | .append, [s, x], [t, t'] => if t = t' then (match Γ t, slotId o with
      | some ⟨_, _, _, .slice ty, _⟩, some id => match Γ ty with
        | some te => st.appQ te ty id (st.ev s) (st.ev x)
        | none => none
      | _, _ => none) else none
    | _, _, _ => none
  | _ => none

theorem Sub.srcA {st S : St} (hs : Sub st S) {sz : Nat} {o : Operand} {l : List AV} (h : st.srcA sz (st.ev o) = some l) : S.srcA sz (S.ev o) = some l := by
  rcases hs.ev o with hd | hd
  · rw [hd] at h; simp [St.srcA] at h
  · rw [hd]
    unfold St.srcA at h ⊢
    split at h
    · exact h
    · rename_i id off len hx
      split at h
      · rename_i ho
        rw [hs.2 _ _ ho]; exact h
      · cases h
    · exact h
    · cases h

theorem QStep.append (hΓ : TOk P Γ) {o : Oper} {st : St} {r : AV} {new : List (Nat × Obj)} (hr : evalApp Γ o st = some (r, new)) (hfresh : ∀ nid, slotId o = some nid → look nid st.objs = none) : QStep P o st r new := by
  intro S rd a w e h hs hno next Q hn
  unfold evalApp at hr
  split at hr
  · rename_i bi args tys ho
    split at hr
    · rename_i s x t t' harg hty
      split at hr
      · rename_i htt
        subst htt
        split at hr
        · rename_i i1 i2 i3 ty i4 nid hti hslot
          split at hr
          · rename_i te hte
            have hfr := hfresh nid hslot
            have hargs : args = #[s, x] := by rw [← Array.toList_inj]; simpa using harg
            have htys : tys = #[t, t] := by rw [← Array.toList_inj]; simpa using hty
            subst hargs; subst htys
            have hT := hΓ _ _ hti
            have hE := hΓ _ _ hte
            -- it suffices to run append
            have main : ∀ v w' e', (Builtin.append_ #[t, t] o.type #[a.eval s, a.eval x]).run P w = .ok v w' → Conc { S with objs := new ++ S.objs } a w' e' → Fr w e w' e' → Rd w' e' r v → o.wpIn (FR rd) 0 P a w next Q := by
              intro v w' e' h1 h2 h3 h4
              refine ⟨fun _ _ => trivial, ?_⟩
              rw [semAt_ok (x := .value v) (w' := w') (by simp [execOp, ho, resolve, invoke, builtin, h1]) (by simp)]
              exact hn v w' e' h2 h3 h4
            unfold St.appQ at hr
            split at hr
            · rename_i hz
              split at hr
              · rename_i l hsrc
                have hS := h.src hz (h.ev x) (hs.srcA hsrc)
                split at hr
                · rename_i id len hsv
                  have hsS : S.ev s = .own id 0 len := by
                    rcases hs.ev s with hd | hd
                    · rw [hd] at hsv; cases hsv
                    · rw [hd]; exact hsv
                  have hrs := h.ev s
                  rw [hsS] at hrs
                  split at hr
                  · -- a row whose elder name dies
                    rename_i ty' sz els hob
                    split at hr
                    · rename_i hc
                      obtain ⟨rfl, rfl, hlen, hb0, hun, hu, hne⟩ := hc
                      obtain ⟨hb1, hb2⟩ := capOk_iff.1 hb0
                      cases hr
                      have hoS := hs.2 _ _ hob
                      have hnS : look nid S.objs = none := by
                        rcases hno (nid, _) (List.mem_cons_self ..) with h1 | h1
                        · simp only at h1; rw [hfr] at h1; cases h1
                        · exact h1
                      generalize hvs : a.eval s = vs at hrs
                      generalize hvx : a.eval x = vx at hS
                      cases hrs with
                      | data hrs => cases hrs
                      | own0 _ m hm hb a0 =>
                        have hk := h.sim.obj id _ m hoS hm
                        have hcap0 : m.cap = 0 := by have := hk.blk; simpa [hb] using this
                        have hels : els = [] := List.eq_nil_of_length_eq_zero (by have := hk.len; omega)
                        subst hels
                        have nilCase : l = [] → (∃ a1 c, vx = .slice a1 0 c) → o.wpIn (FR rd) 0 P a w next Q := by
                          rintro rfl ⟨a1, c, rfl⟩
                          obtain ⟨e', q1, q2, q3⟩ := h.movedM hu hun hne hnS (by rw [hoS]; rfl) (mt none 0 te.size) (.row true ty' te.size ([] ++ [])) rfl rfl rfl (Nat.le_refl _) (fun b hb' => by rcases hb' with hb' | hb' <;> cases hb') (fun _ _ _ => rfl)
                            (fun e' _ _ => ⟨rfl, by simp, Nat.zero_le _, fun x hx => by simp at hx, fun _ h => h, rfl⟩)
                          exact main _ w e' (by rw [hvs, hvx]; exact run_append_zero hT rfl hE o.type (Nat.le_refl _)) q1 q2 (.own0 nid _ q3 rfl a0)
                        rcases hS.val with ⟨hl0, hx0⟩ | ⟨ad, c, news, hvx', n1, n2, n3, n4⟩
                        · exact nilCase hl0 hx0
                        · by_cases hl0 : l = []
                          · exact nilCase hl0 ⟨_, _, by rw [hvx', hl0]; rfl⟩
                          · subst hvx'
                            simp only [List.length_nil, Nat.zero_add] at hb1 hb2
                            obtain ⟨v', w', g, cap', cur', hrun, hap⟩ := run_append_none (P := P) (w := w) (c := c) (a0 := a0) hT rfl hE o.type (List.length_pos_iff.2 hl0) n1 n2 hb1 (by unfold maxLen; omega)
                            obtain ⟨e', q1, q2, q3⟩ := h.moved (id := id) (nid := nid) hu hun hne hnS (by rw [hoS]; rfl) (els := []) (l := l) hap (by simpa using hS.cells) (fun b hb' => by cases hb') (by simp) (fun i x hx => by simp at hx) n4
                            exact main v' w' e' (by rw [hvs, hvx]; exact hrun) q1 q2 q3
                      | ownX _ _ _ m hm hg => exact absurd hg (h.sim.obj id _ m hoS hm).ngone
                      | own _ _ _ m b hm hb hc =>
                        subst hlen
                        have hk := h.sim.obj id _ m hoS hm
                        have hkb := hk.blk
                        simp only [hb] at hkb
                        obtain ⟨cur, h1, h2, h3⟩ := hkb
                        have hms : m.sz = te.size := hk.hsz
                        have hcap := hk.len
                        have holen : (cur.toList.take (els.length * te.size)).length = els.length * te.size := by
                          have hcl : cur.toList.length = m.cap * te.size := by rw [← h2]; exact Array.length_toList
                          rw [List.length_take, hcl, Nat.min_eq_left]; exact Nat.mul_le_mul_right _ hcap
                        have hold : ∀ (i : Nat) (x : AV), els[i]? = some x → ∀ (j : Nat) (y : AV), x.cells[j]? = some y → ∃ v, (cur.toList.take (els.length * te.size))[i * te.size + j]? = some v ∧ v.oneCell' = true ∧ RdD w e.q y v := by
                          intro i x hx j y hy
                          obtain ⟨v, g1, g2, g3⟩ := h3 i x hx j y hy
                          have hi : i < els.length := (List.getElem?_eq_some_iff.1 hx).1
                          have hj : j < te.size := by rw [← hk.cells x (List.mem_of_getElem? hx)]; exact (List.getElem?_eq_some_iff.1 hy).1
                          have hlt : i * te.size + j < els.length * te.size := by
                            have : (i + 1) * te.size ≤ els.length * te.size := Nat.mul_le_mul_right _ hi
                            rw [Nat.add_mul, Nat.one_mul] at this; omega
                          exact ⟨v, by rw [List.getElem?_take, if_pos hlt]; simpa using g1, g2, by simpa [CellRd] using g3⟩
                        have hcells : ∀ x ∈ els ++ l, x.cells.length = te.size := by
                          intro x hx
                          rcases List.mem_append.1 hx with hx | hx
                          · exact hk.cells x hx
                          · exact hS.cells x hx
                        simp only [Nat.zero_mul, Nat.sub_zero] at hvs
                        have nilCase : l = [] → (∃ a1 c, vx = .slice a1 0 c) → o.wpIn (FR rd) 0 P a w next Q := by
                          rintro rfl ⟨a1, c, rfl⟩
                          have hap : Appended w w ty' te.size els.length ([] : List AV).length (some b) (cur.toList.take (els.length * te.size)) [] (.slice (some ⟨b, 0, none⟩) els.length m.cap) b m.cap cur :=
                            ⟨rfl, h1, h2, by simpa using hcap, hk.cap, .inl rfl, fun p hp => by
                              simp only [List.length_nil, Nat.add_zero] at hp
                              rw [List.append_nil, List.getElem?_take, if_pos hp]; simp, rfl, rfl, rfl, Nat.le_refl _, fun _ _ _ => rfl⟩
                          obtain ⟨e', q1, q2, q3⟩ := h.moved (id := id) (nid := nid) hu hun hne hnS (by rw [hoS]; rfl) (els := els) (l := []) hap hcells (fun b' hb' => by cases hb'; exact ⟨m, hm, hb⟩) holen hold (fun i x hx => by simp at hx)
                          exact main _ w e' (by rw [hvs, hvx]; exact run_append_zero hT rfl hE o.type hcap) q1 q2 q3
                        rcases hS.val with ⟨hl0, hx0⟩ | ⟨ad, c, news, hvx', n1, n2, n3, n4⟩
                        · exact nilCase hl0 hx0
                        · by_cases hl0 : l = []
                          · exact nilCase hl0 ⟨_, _, by rw [hvx', hl0]; rfl⟩
                          · subst hvx'
                            obtain ⟨v', w', g, cap', cur', hrun, hap⟩ := run_append_row (P := P) (c := c) hT rfl hE o.type h1 h2 hcap hk.cap rfl n1 n2 n3 hb1 (by unfold maxLen; omega)
                            obtain ⟨e', q1, q2, q3⟩ := h.moved (id := id) (nid := nid) hu hun hne hnS (by rw [hoS]; rfl) (els := els) (l := l) hap hcells (fun b' hb' => by cases hb'; exact ⟨m, hm, hb⟩) holen hold n4
                            exact main v' w' e' (by rw [hvs, hvx]; exact hrun) q1 q2 q3
                    · cases hr
                  · -- a row of known room
                    rename_i ty' sz cap els hob
                    split at hr
                    · rename_i hc
                      obtain ⟨rfl, rfl, hlen, hl0, hb0, hun⟩ := hc
                      obtain ⟨hb1, hb2⟩ := capOk_iff.1 hb0
                      have hoS := hs.2 _ _ hob
                      have hlp := List.length_pos_iff.2 hl0
                      rcases hS.val with ⟨rfl, _⟩ | ⟨ad, c, news, hvx, n1, n2, n3, n4⟩
                      · exact absurd rfl hl0
                      · generalize hvs : a.eval s = vs at hrs
                        cases hrs with
                        | data hrs => cases hrs
                        | own0 _ m hm hb a0 =>
                          obtain ⟨hk, hkc⟩ := h.sim.obj id _ m hoS hm
                          have hcap0 : m.cap = 0 := by have := hk.blk; simpa [hb] using this
                          have hels : els = [] := List.eq_nil_of_length_eq_zero (by have := hk.len; omega)
                          subst hels
                          rw [if_neg (by simp only [List.length_nil]; omega)] at hr
                          cases hr
                          have hnS : look nid S.objs = none := by
                            rcases hno (nid, _) (List.mem_cons_self ..) with h1 | h1
                            · simp only at h1; rw [hfr] at h1; cases h1
                            · exact h1
                          simp only [List.length_nil, Nat.zero_add] at hb1 hb2
                          obtain ⟨v', w', g, cap', cur', hrun, hap⟩ := run_append_none (P := P) (w := w) (c := c) (a0 := a0) hT rfl hE o.type hlp n1 n2 hb1 (by unfold maxLen; omega)
                          obtain ⟨e', q1, q2, q3⟩ := h.appended (id := nid) hun (els := []) (l := l) hap (by simpa using hS.cells) (fun b hb' => by cases hb') (by simp) (fun i x hx => by simp at hx) n4
                          obtain ⟨g1, g2⟩ := renew_look h (get_none h hnS) (.row true ty' te.size ([] ++ l))
                          exact main v' w' e' (by rw [hvs, hvx]; exact hrun) (q1.congr (fun t => (g1 t).symm) (fun j => by rw [g2]; simp [look]) (by rw [← q1.size, h.size])) q2 q3
                        | ownX _ _ _ m hm hg => exact absurd hg (h.sim.obj id _ m hoS hm).1.ngone
                        | own _ _ _ m b hm hb hc =>
                          subst hlen
                          obtain ⟨hk, hkc⟩ := h.sim.obj id _ m hoS hm
                          have hkb := hk.blk
                          simp only [hb] at hkb
                          obtain ⟨cur, h1, h2, h3⟩ := hkb
                          have hms : m.sz = te.size := hk.hsz
                          have hcap := hk.len
                          have holen : (cur.toList.take (els.length * te.size)).length = els.length * te.size := by
                            have hcl : cur.toList.length = m.cap * te.size := by rw [← h2]; exact Array.length_toList
                            rw [List.length_take, hcl, Nat.min_eq_left]; exact Nat.mul_le_mul_right _ hcap
                          have hold : ∀ (i : Nat) (x : AV), els[i]? = some x → ∀ (j : Nat) (y : AV), x.cells[j]? = some y → ∃ v, (cur.toList.take (els.length * te.size))[i * te.size + j]? = some v ∧ v.oneCell' = true ∧ RdD w e.q y v := by
                            intro i x hx j y hy
                            obtain ⟨v, g1, g2, g3⟩ := h3 i x hx j y hy
                            have hi : i < els.length := (List.getElem?_eq_some_iff.1 hx).1
                            have hj : j < te.size := by rw [← hk.cells x (List.mem_of_getElem? hx)]; exact (List.getElem?_eq_some_iff.1 hy).1
                            have hlt : i * te.size + j < els.length * te.size := by
                              have : (i + 1) * te.size ≤ els.length * te.size := Nat.mul_le_mul_right _ hi
                              rw [Nat.add_mul, Nat.one_mul] at this; omega
                            exact ⟨v, by rw [List.getElem?_take, if_pos hlt]; simpa using g1, g2, by simpa [CellRd] using g3⟩
                          have hcells : ∀ x ∈ els ++ l, x.cells.length = te.size := by
                            intro x hx
                            rcases List.mem_append.1 hx with hx | hx
                            · exact hk.cells x hx
                            · exact hS.cells x hx
                          simp only [Nat.zero_mul, Nat.sub_zero] at hvs
                          split at hr
                          · rename_i hroom
                            cases hr
                            obtain ⟨w', cur', hrun, hap⟩ := run_append_in (P := P) (c := c) hT rfl hE o.type h1 h2 hk.cap rfl n1 n2 n3 (by omega : els.length + l.length ≤ m.cap)
                            have hfr2 : Fr w e w' e := ⟨hap.os, hap.tape, hap.output, hap.grow, fun k hk' hn => hap.keep k hk' (fun he => hn (by cases he; exact ⟨id, m, hm, .inl hb⟩)), fun _ h _ => h, rfl, .refl e⟩
                            have hrow := hap.row hfr2 hcells holen hold n4
                            have hmm : m = mt (some b) m.cap te.size := by
                              have h4 := hk.only
                              obtain ⟨mb, mc, ms, mm⟩ := m
                              simp only at hb hms h4
                              subst hb; subst hms
                              have : mm = fun _ => False := funext fun x => eq_false (h4 x)
                              subst this; rfl
                            rw [← hmm] at hrow
                            have hw := h.write id (.fix ty' te.size cap (els ++ l)) m hm hfr2 (fun j m' b' hj hm' hb' => hap.keep b' (h.sim.blk_lt hm' hb') (fun he => by cases he; exact hj (h.sim.inj j id m' m b hm' hm hb' (.inl hb)))) ⟨hrow, hkc⟩
                            refine main _ w' e (by rw [hvs, hvx]; exact hrun) (hw.congr (fun _ => rfl) (fun j => by simp [look, look_upd]) rfl) hfr2 ?_
                            have := Rd.own (w := w') (e := e) id 0 (els ++ l).length m b hm hb (by rw [List.length_append]; omega)
                            simpa [List.length_append] using this
                          · rename_i hroom
                            cases hr
                            have hnS : look nid S.objs = none := by
                              rcases hno (nid, _) (List.mem_cons_self ..) with h1 | h1
                              · simp only at h1; rw [hfr] at h1; cases h1
                              · exact h1
                            obtain ⟨v', w', g, cap', cur', hrun, hap⟩ := run_append_out (P := P) (c := c) hT rfl hE o.type h1 h2 hcap rfl n1 n2 hb1 (by unfold maxLen; omega) (by omega)
                            obtain ⟨e', q1, q2, q3⟩ := h.appended (id := nid) hun (els := els) (l := l) hap hcells (fun b hb' => by cases hb') holen hold n4
                            obtain ⟨g1, g2⟩ := renew_look h (get_none h hnS) (.row true ty' te.size (els ++ l))
                            exact main v' w' e' (by rw [hvs, hvx]; exact hrun) (q1.congr (fun t => (g1 t).symm) (fun j => by rw [g2]; simp [look]) (by rw [← q1.size, h.size])) q2 q3
                    · cases hr
                  · cases hr
                · -- nil
                  rename_i hsv
                  have hsS : S.ev s = .val (.slice none 0 0) := by
                    rcases hs.ev s with hd | hd
                    · rw [hd] at hsv; cases hsv
                    · rw [hd]; exact hsv
                  have hrs := h.ev s
                  rw [hsS] at hrs
                  have hvs := hrs.val_inv
                  split at hr
                  · rename_i hc
                    obtain ⟨hl0, hb0, hun⟩ := hc
                    obtain ⟨hb1, hb2⟩ := capOk_iff.1 hb0
                    cases hr
                    have hnS : look nid S.objs = none := by
                      rcases hno (nid, _) (List.mem_cons_self ..) with h1 | h1
                      · simp only at h1; rw [hfr] at h1; cases h1
                      · exact h1
                    rcases hS.val with ⟨rfl, _⟩ | ⟨ad, c, news, hvx, n1, n2, n3, n4⟩
                    · exact absurd rfl hl0
                    · obtain ⟨v', w', g, cap', cur', hrun, hap⟩ := run_append_none (P := P) (w := w) (c := c) (a0 := none) hT rfl hE o.type (List.length_pos_iff.2 hl0) n1 n2 hb1 (by unfold maxLen; omega)
                      obtain ⟨e', q1, q2, q3⟩ := h.appended (id := nid) hun (els := []) (l := l) hap (by simpa using hS.cells) (fun b hb' => by cases hb') (by simp) (fun i x hx => by simp at hx) n4
                      obtain ⟨g1, g2⟩ := renew_look h (get_none h hnS) (.row true ty te.size ([] ++ l))
                      exact main v' w' e' (by rw [hvs, hvx]; exact hrun) (q1.congr (fun t => (g1 t).symm) (fun j => by rw [g2]; simp [look]) (by rw [← q1.size, h.size])) q2 q3
                  · cases hr
                · cases hr
              · cases hr
            · cases hr
          · cases hr
        · cases hr
      · cases hr
    · cases hr
  · cases hr
#print axioms QStep.append

/-- append in a drawn region's head; ids: what it turns -/
theorem WDraw.app (hΓ : TOk P Γ) (ids : List Nat) {ops rest : List Oper} {deps : List (List Nat)} {eff : List (Nat × List Nat)} {s0 v : St} {K : St → Prop} {n k : Nat} {ents ents' : List REnt} {o : Oper} {r : AV} {new : List (Nat × Obj)} (hv : viewSt ops deps eff s0 k ents = v) (hw : wantedA ops o v = some true) (he : evalApp Γ o v = some (r, new))
    (hf : (match slotId o with | some nid => (look nid v.objs).isNone | none => true) = true) (hn : outIn ids o v new = true) (hk : ids = [] ∨ (k, ids) ∈ eff)
    (hs : ents ++ [⟨o.dst, r, new⟩] = ents') (h : WDraw P ops deps eff s0 K n rest (k + 1) ents') : WDraw P ops deps eff s0 K (n + 1) (o :: rest) k ents := by
  subst hv; subst hs
  refine ⟨true, hw, ?_⟩
  simp only [if_true]
  exact ⟨r, new, QStep.append hΓ he (fun nid hs => by rw [hs] at hf; simpa using hf), outIn_all hk hn, h⟩

/-- .. nil stays nil -/
def nilArgs : List AV → List AV → List AV
  | .val (.slice none 0 0) :: r, _ :: s => .val (.slice none 0 0) :: nilArgs r s
  | _ :: r, y :: s => y :: nilArgs r s
  | _, _ => []
theorem nilArgs_rd {R : AV → Value → Prop} {R' : AV → Value → Prop} (hR : ∀ v, R (.val (.slice none 0 0)) v → R' (.val (.slice none 0 0)) v) : ∀ {xs ys : List AV}, ys.length = xs.length → (∀ (i : Nat) (x y : AV) (v : Value), xs[i]? = some x → ys[i]? = some y → R x v → R' y v) →
    (nilArgs xs ys).length = xs.length ∧ ∀ (i : Nat) (x y : AV) (v : Value), xs[i]? = some x → (nilArgs xs ys)[i]? = some y → R x v → R' y v
  | [], ys, _, _ => ⟨by cases ys <;> rfl, fun i x y v hx => by simp at hx⟩
  | x :: xs, [], hl, _ => by simp at hl
  | x :: xs, y :: ys, hl, h => by
    obtain ⟨h1, h2⟩ := nilArgs_rd hR (xs := xs) (ys := ys) (by simpa using hl) (fun i x y v hx hy => h (i + 1) x y v (by simpa using hx) (by simpa using hy))
    unfold nilArgs
    split
    · rename_i e1 e2
      cases e1; cases e2
      refine ⟨by simp [h1], fun i x' y' v hx hy => ?_⟩
      cases i with
      | zero => simp at hx hy; subst hx; subst hy; exact hR v
      | succ i => exact h2 i x' y' v (by simpa using hx) (by simpa using hy)
    · rename_i e1 e2
      cases e1; cases e2
      refine ⟨by simp [h1], fun i x' y' v hx hy => ?_⟩
      cases i with
      | zero => exact h 0 x' y' v (by simpa using hx) (by simpa using hy)
      | succ i => exact h2 i x' y' v (by simpa using hx) (by simpa using hy)
    · rename_i hno; exact absurd rfl (hno x xs y ys rfl)
theorem WOps.callN {ops rest : List Oper} {K : St → Prop} {o : Oper} {st : St} {f : Operand} {args : Array Operand} {tys : Array TypeId} (ho : o.op = .call { callee := .value f, args, argTypes := tys }) (hw : wantedA ops o st = some true) (hd0 : dstOk o st = true)
    {g : FuncId} {caps : List AV} (hf : st.callee f = some (g, caps)) (ps : List (Nat × Nat)) (hps : psOk ps = true) {d : Nat} (hd : o.dst.getD 1249 = d) (hd2 : d < 1250) {ys ys' : List AV} {b : Bool} (hsn : st.snaps ps (args.toList.map st.ev ++ caps) = some (ys, b)) (hys : nilArgs (args.toList.map st.ev ++ caps) ys = ys')
    {os : List (Nat × Obj)} (hos : st.objsFor ps ps = some os) (h : CallT P g ys' os b ps d (fun r n => WOps P ops K rest ((st.adopt ps d n).put o.dst (r.ren (outName ps d))))) : WOps P ops K (o :: rest) st := by
  subst hys
  obtain ⟨R, hc, hN⟩ := h
  refine ⟨hd0, true, hw, ?_⟩
  simp only [if_true]
  intro rd a w e hcc next Q hn
  refine call_core' ho hf hps (fun _ _ _ hv hp hi => ?_) hos hc (by omega : d < 1250) (fun r objs hR => ⟨(hN r objs hR).1, (hN r objs hR).2.1⟩) hcc.view hcc fun r objs v w' e' hR h1 h2 h3 => hn _ _ v w' e' (hN r objs hR).2.2 h1 h2 h3
  obtain ⟨l1, l2⟩ := snaps_rd hps hv hp hi hsn
  exact nilArgs_rd (fun v hv => by obtain rfl := hv.val_inv; exact .data (.val _)) l1 l2
attribute [simp] nilArgs
/-- how much room a row has is learnt -/
theorem W.fixed [M : Mode] {c : Code} {st : St} {Q : Exit → St → Prop} (id : Nat) {ty : TypeId} {sz : Nat} {els : List AV} (ho : look id st.objs = some (.row true ty sz els)) (h : ∀ cap, els.length ≤ cap → W P c { st with objs := upd id (.fix ty sz cap els) st.objs } Q) : W P c st Q := by
  intro rd a w e hc
  obtain ⟨m, hm⟩ := Option.isSome_iff_exists.1 (show (e.get id).isSome = true by rw [hc.sim.dom, ho]; rfl)
  have hk := hc.sim.obj id _ m ho hm
  exact h m.cap hk.len rd a w e (hc.write id _ m hm (Fr.refl w e) (fun _ _ _ _ _ _ => rfl) ⟨hk, rfl⟩)
theorem RowOk.take {w : World} {e : Env} {m : Mta} {d : Bool} {ty : TypeId} {sz : Nat} {els : List AV} (h : RowOk w e m d ty sz els) (k : Nat) : RowOk w e m d ty sz (els.take k) := by
  refine ⟨h.hsz, by have := h.len; rw [List.length_take]; omega, h.cap, fun x hx => h.cells x (List.mem_of_mem_take hx), h.only, ?_⟩
  have hk := h.blk
  cases hmb : m.blk with
  | none => simpa [hmb] using hk
  | some b =>
    simp only [hmb] at hk ⊢
    obtain ⟨cur, h1, h2, h3⟩ := hk
    refine ⟨cur, h1, h2, fun i x hx => h3 i x ?_⟩
    rw [List.getElem?_take] at hx
    split at hx
    · exact hx
    · cases hx
/-- fewer elements are known -/
theorem Le.fixTake {st : St} (id k : Nat) {ty : TypeId} {sz cap : Nat} {els : List AV} (ho : look id st.objs = some (.fix ty sz cap els)) : Le st { st with objs := upd id (.fix ty sz cap (els.take k)) st.objs } := by
  intro a w e hc
  obtain ⟨m, hm⟩ := Option.isSome_iff_exists.1 (show (e.get id).isSome = true by rw [hc.sim.dom, ho]; rfl)
  have hk := hc.sim.obj id _ m ho hm
  exact ⟨e, hc.write id _ m hm (Fr.refl w e) (fun _ _ _ _ _ _ => rfl) ⟨hk.1.take k, hk.2⟩, Fr.refl w e⟩
/-- how much room it has is forgotten -/
theorem Le.unfix {st : St} (id : Nat) {ty : TypeId} {sz cap : Nat} {els : List AV} (ho : look id st.objs = some (.fix ty sz cap els)) : Le st { st with objs := upd id (.row true ty sz els) st.objs } := by
  intro a w e hc
  obtain ⟨m, hm⟩ := Option.isSome_iff_exists.1 (show (e.get id).isSome = true by rw [hc.sim.dom, ho]; rfl)
  have hk := hc.sim.obj id _ m ho hm
  exact ⟨e, hc.write id _ m hm (Fr.refl w e) (fun _ _ _ _ _ _ => rfl) hk.1, Fr.refl w e⟩
/-- .. ahead of an operation -/
theorem WOps.fixed {ops rest : List Oper} {K : St → Prop} {o : Oper} {st : St} (id : Nat) {ty : TypeId} {sz : Nat} {els : List AV} (ho : look id st.objs = some (.row true ty sz els)) (hg : o.guard = none) (hd : dstOk o st = true)
    (h : ∀ cap, els.length ≤ cap → WOps P ops K (o :: rest) { st with objs := upd id (.fix ty sz cap els) st.objs }) : WOps P ops K (o :: rest) st := by
  refine ⟨hd, true, by simp [wantedA, hg], ?_⟩
  simp only [if_true]
  intro rd a w e hc next Q hn
  obtain ⟨m, hm⟩ := Option.isSome_iff_exists.1 (show (e.get id).isSome = true by rw [hc.sim.dom, ho]; rfl)
  have hk := hc.sim.obj id _ m ho hm
  obtain ⟨_, t, hw, h2⟩ := h m.cap hk.len
  have ht : t = true := by simpa [wantedA, hg] using hw.symm
  subst ht
  simp only [if_true] at h2
  exact h2 rd a w e (hc.write id _ m hm (Fr.refl w e) (fun _ _ _ _ _ _ => rfl) ⟨hk, rfl⟩) next Q hn
end
attribute [simp] evalApp St.appQ
end Go.Sim
