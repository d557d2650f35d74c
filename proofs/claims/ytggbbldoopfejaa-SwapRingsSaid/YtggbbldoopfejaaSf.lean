/- What the operations do on abstract values: those that make or write objects. -/
import Derived.Test.YtggbbldoopfejaaSe
import Derived.Laws.MakeOwn
namespace Go.Sim
open Go.RowKit
section
variable {P : Program}

theorem Sim.blk_lt {w : World} {e : Env} {objs : List (Nat × Obj)} (h : Sim w e objs) {j : Nat} {m : Mta} {b : Nat} (hj : e.get j = some m) (hb : m.has b) : b < w.heap.size := by
  have hd := h.dom j
  rw [hj] at hd
  simp only [Option.isSome_some] at hd
  obtain ⟨o, ho⟩ := Option.isSome_iff_exists.1 hd.symm
  have hk := h.obj j o m ho hj
  cases o with
  | row d ty sz els =>
    replace hb : m.blk = some b := hb.resolve_right (hk.only b)
    have := hk.blk
    simp only [hb] at this
    obtain ⟨cur, h1, _⟩ := this
    exact (Array.getElem?_eq_some_iff.1 h1).1
  | mp sh ents =>
    replace hb : m.blk = some b := hb.resolve_right (hk.only b)
    obtain ⟨b', es, clock, h1, h2, _⟩ := hk.blk
    rw [hb] at h1; cases h1
    exact (Array.getElem?_eq_some_iff.1 h2).1
  | ext l J => exact hk.lt b hb
  | fix ty sz cap els =>
    obtain ⟨hk, _⟩ := hk
    have hkb := hk.blk
    rcases hb with hb | hb
    · simp only [hb] at hkb
      obtain ⟨cur, h1, _⟩ := hkb
      exact (Array.getElem?_eq_some_iff.1 h1).1
    · exact absurd hb (hk.only b)
  | gone => exact absurd (hb.resolve_left fun h1 => by rw [hk.1.1] at h1; cases h1) (hk.2 b)

/-- A new block of cells under id. -/
theorem Conc.alloc {st : St} {a : Act} {w : World} {e : Env} (h : Conc st a w e) (id cap : Nat) (hu : unp id = true) (d : Bool) (ty : TypeId) (sz : Nat) (els : List AV) (cells : Array Value)
    (hcs : cells.size = cap * sz) (hlen : els.length ≤ cap) (hcap : cap ≤ maxLen) (hel : ∀ x ∈ els, x.cells.length = sz)
    (hcon : ∀ (i : Nat) (x : AV), els[i]? = some x → ∀ (j : Nat) (y : AV), x.cells[j]? = some y → ∃ v, cells[i * sz + j]? = some v ∧ v.oneCell' = true ∧ CellRd d w e y v) :
    Conc (st.renew id (Obj.map (AV.kill id) (.row d ty sz els))) a (w.alloc (.cells cells ty)) (e.set id (mt (some w.heap.size) (cap) (sz))) ∧ Fr w e (w.alloc (.cells cells ty)) (e.set id (mt (some w.heap.size) (cap) (sz))) := by
  have hfr : Fr w e (w.alloc (.cells cells ty)) (e.set id (mt (some w.heap.size) (cap) (sz))) := by
    refine ⟨rfl, rfl, rfl, by simp, fun b hb _ => heap_alloc_old w _ b hb, fun b ho hb => ?_, rfl, Pinned.of fun j hj => by simp [Env.set, unp_ne hu hj]⟩
    obtain ⟨j, m, hj, hm⟩ := ho
    simp only [Env.set] at hj
    split at hj
    · cases hj; rw [Mta.has_mk] at hm; cases hm; omega
    · exact ⟨j, m, hj, hm⟩
  refine ⟨h.renew id _ _ hfr (fun b hb j m' hj hm' hb' => ?_) (fun j m' b hj hm' hb' => heap_alloc_old w _ b (h.sim.blk_lt hm' hb')) ?_ (fun b hb => ?_), hfr⟩
  · rw [Mta.has_mk] at hb; cases hb; have := h.sim.blk_lt hm' hb'; omega
  · have ht := turns_kill (w := w) (e := e) id hfr (fun j hj => by simp [Env.set, hj])
    cases d with
    | true =>
      refine ⟨rfl, hlen, hcap, hel, fun _ h => h, cells, heap_alloc_new w _, hcs, fun i x hx j y hy => ?_⟩
      obtain ⟨v, g1, g2, g3⟩ := hcon i x hx j y hy
      exact ⟨v, g1, g2, by simp only [CellRd, if_true] at g3 ⊢; exact g3.fr hfr⟩
    | false =>
      refine ⟨rfl, by simpa using hlen, hcap, fun x hx => ?_, fun _ h => h, cells, heap_alloc_new w _, hcs, fun i x hx j y hy => ?_⟩
      · obtain ⟨y, hy, rfl⟩ := List.mem_map.1 hx
        rw [AV.mapCells_cells _ (AV.kill_cells id), List.length_map]; exact hel y hy
      · rw [List.getElem?_map] at hx
        obtain ⟨x0, hx0, rfl⟩ := Option.map_eq_some_iff.1 hx
        rw [AV.mapCells_cells _ (AV.kill_cells id), List.getElem?_map] at hy
        obtain ⟨y0, hy0, rfl⟩ := Option.map_eq_some_iff.1 hy
        obtain ⟨v, g1, g2, g3⟩ := hcon i x0 hx0 j y0 hy0
        exact ⟨v, g1, g2, by simp only [CellRd, Bool.false_eq_true, if_false] at g3 ⊢; exact ht _ _ g3⟩
  · rw [Mta.has_mk] at hb; cases hb; exact h.sim.new _ (Nat.le_refl _)

theorem Conc.phantom {st : St} {a : Act} {w : World} {e : Env} (h : Conc st a w e) (id : Nat) (hu : unp id = true) (ty : TypeId) (sz : Nat) :
    Conc (st.renew id (.row true ty sz [])) a w (e.set id (mt none 0 sz)) ∧ Fr w e w (e.set id (mt none 0 sz)) := by
  have hfr : Fr w e w (e.set id (mt none 0 sz)) := by
    refine ⟨rfl, rfl, rfl, Nat.le_refl _, fun b hb _ => rfl, fun b ho hb => ?_, rfl, Pinned.of fun j hj => by simp [Env.set, unp_ne hu hj]⟩
    obtain ⟨j, m, hj, hm⟩ := ho
    simp only [Env.set] at hj
    split at hj
    · cases hj; rw [Mta.has_mk] at hm; cases hm
    · exact ⟨j, m, hj, hm⟩
  exact ⟨h.renew id _ _ hfr (fun b hb => by rw [Mta.has_mk] at hb; cases hb) (fun _ _ _ _ _ _ => rfl) ⟨rfl, Nat.le_refl _, Nat.zero_le _, fun x hx => by simp at hx, fun _ h => h, rfl⟩ (fun b hb => by rw [Mta.has_mk] at hb; cases hb), hfr⟩

/-! ### new variables -/
def St.box (st : St) (id : Nat) (ty : TypeId) (x : AV) : Option (AV × St) :=
  if x.fit ∧ unp id then some (.ptr id 0 0, st.renew id (Obj.map (AV.kill id) (.row false ty x.cells.length [x]))) else none

theorem Conc.box {st st' : St} {a : Act} {w : World} {e : Env} (h : Conc st a w e) {id : Nat} {ty : TypeId} {x r : AV} {v : Value} (hx : Rd w e x v) (hr : st.box id ty x = some (r, st')) :
    ∃ w' e', (Instr.box ty v).run P w = .ok (.pointer (some ⟨w.heap.size, 0, none⟩)) w' ∧ Conc st' a w' e' ∧ Fr w e w' e' ∧ Rd w' e' r (.pointer (some ⟨w.heap.size, 0, none⟩)) := by
  unfold St.box at hr
  split at hr
  · rename_i hf
    obtain ⟨hf, hu⟩ := hf
    cases hr
    obtain ⟨⟨h1, h2⟩, h3⟩ := hx.cellsRd hf
    obtain ⟨c1, c2⟩ := h.alloc id 1 hu false ty x.cells.length [x] v.cells (by rw [h1, Nat.one_mul]) (Nat.le_refl _) (by unfold maxLen; omega) (by simp) (fun i y hy j z hz => by
      cases i with
      | succ i => simp at hy
      | zero =>
        simp at hy; subst hy
        have hlt : j < v.cells.size := by rw [h1]; exact (List.getElem?_eq_some_iff.1 hz).1
        exact ⟨v.cells[j], by simp [Array.getElem?_eq_getElem hlt], h3 j _ (Array.getElem?_eq_getElem hlt), by
          simp only [CellRd, Bool.false_eq_true, if_false]; exact h2 j z _ hz (Array.getElem?_eq_getElem hlt)⟩)
    refine ⟨_, _, ?_, c1, c2, ?_⟩
    · simp [Instr.box, newVar, newRow, World.alloc_eq]
    · have := Rd.ptr (w := w.alloc (.cells v.cells ty)) (e := e.set id (mt (some w.heap.size) (1) (x.cells.length))) id 0 0 (mt (some w.heap.size) (1) (x.cells.length)) w.heap.size (by simp [Env.set]) rfl
      simpa using this
  · cases hr

theorem run_alloc_box {t : TypeId} {ti : TI} (h : TIOk P t ti) (w : World) : (Instr.alloc t true (.tuple #[])).run P w = (Instr.box t ti.zero).run P w := by
  simp [Instr.alloc, Instr.box, run_zero h]

/-! ### letting an object go: its views become data -/
def St.freeze (st : St) (id : Nat) : Option St :=
  match look id st.objs with
  | some (.row true _ sz els) => if 0 < sz ∧ unp id then some (st.turn id (AV.frz id els)) else none
  | _ => none

theorem Conc.freeze {st st' : St} {a : Act} {w : World} {e : Env} (h : Conc st a w e) {id : Nat} (hr : st.freeze id = some st') :
    Conc st' a w (e.drop id) ∧ Fr w e w (e.drop id) ∧ (∀ ty sz els, look id st.objs = some (.row true ty sz els) → Turns w e w (e.drop id) (AV.frz id els)) := by
  unfold St.freeze at hr
  split at hr
  · rename_i ty sz els ho
    split at hr
    · rename_i hz
      obtain ⟨hz, hu⟩ := hz
      cases hr
      have hfr := Fr.drop w e id hu
      have ht : Turns w e w (e.drop id) (AV.frz id els) := by
        intro x v hx
        have key : ∀ y : AV, (∀ i off len, y ≠ .own i off len) → y = x → Rd w (e.drop id) (if y.men id then .dead else y) v := by
          intro y _ hy
          subst hy
          cases hm : y.men id with
          | true => exact .dead v
          | false =>
            refine hx.fr hfr fun j hj => ?_
            simp only [Env.drop]; rw [if_neg]; intro e; subst e; rw [hm] at hj; cases hj
        cases x with
        | own i off len =>
          simp only [AV.frz]
          by_cases hi : i = id
          · subst hi
            rw [if_pos rfl]
            split
            · rename_i hle
              refine .data ?_
              cases hx with
              | data hx => cases hx
              | own0 _ m hm hb a => simpa using RdD.imm0 a 0
              | ownX _ _ _ m hm hg => exact absurd hg (h.sim.obj i _ m ho hm).ngone
              | own _ _ _ m b hm hb hc =>
                have hk := h.sim.obj i _ m ho hm
                have hkb := hk.blk
                simp only [hb] at hkb
                obtain ⟨cur, h1, h2, h3⟩ := hkb
                have hms : m.sz = sz := hk.hsz
                by_cases h0 : len = 0
                · subst h0; simpa using RdD.imm0 (some _) _
                · have hl : ((els.drop off).take len).length = len := by simp; omega
                  have hget : ∀ (k : Nat) (x : AV), ((els.drop off).take len)[k]? = some x → els[off + k]? = some x := by
                    intro k x hx
                    rw [List.getElem?_take] at hx
                    split at hx
                    · rwa [List.getElem?_drop] at hx
                    · cases hx
                  have hq : (e.drop i).q b := ⟨h.sim.prok b ⟨i, m, hm, .inl hb⟩, by
                    rintro ⟨j, m', hj, hb'⟩
                    simp only [Env.drop] at hj
                    split at hj
                    · cases hj
                    · rename_i hne; exact hne (h.sim.inj j i m' m b hj hm hb' (.inl hb))⟩
                  have := RdD.imm (w := w) (q := (e.drop i).q) ((els.drop off).take len) b (off * m.sz) (m.cap - off) sz (fun k j => (w.cell? ⟨b, off * m.sz + k * sz + j, none⟩).getD undef)
                    (by intro hnil; rw [hnil] at hl; simp at hl; exact h0 hl.symm) hz hq (by rw [hl]; have := hk.cap; omega) (by rw [hl]; omega)
                    (fun x hx => hk.cells x (List.mem_of_mem_drop (List.mem_of_mem_take hx)))
                    (fun k x hx j y hy => by
                      obtain ⟨v, g1, g2, _⟩ := h3 _ x (hget k x hx) j y hy
                      rw [show off * m.sz + k * sz + j = (off + k) * sz + j from by rw [hms, Nat.add_mul]]
                      rw [cell_of_row w b _ cur ty (0, 0) h1, g1]; exact ⟨rfl, g2⟩)
                    (fun k x hx j y hy => by
                      obtain ⟨v, g1, g2, g3⟩ := h3 _ x (hget k x hx) j y hy
                      rw [show off * m.sz + k * sz + j = (off + k) * sz + j from by rw [hms, Nat.add_mul]]
                      rw [cell_of_row w b _ cur ty (0, 0) h1, g1]
                      simp only [CellRd, if_true] at g3; exact g3.fr hfr)
                  rw [hl] at this
                  exact this
            · exact .dead v
          · rw [if_neg hi]
            refine hx.fr hfr fun j hj => ?_
            simp only [AV.men, beq_iff_eq] at hj
            subst hj
            simp [Env.drop, hi]
        | _ => exact key _ (by simp) rfl
      refine ⟨h.shrink id _ hu ht (AV.frz_cells id els), hfr, fun ty' sz' els' ho' => ?_⟩
      rw [ho] at ho'; cases ho'; exact ht
    · cases hr
  · cases hr

/-- Values made data, one after the other: own slices are let go (g: what the values that wait have become). -/
def St.toData1 (st : St) (g : AV → AV) (x : AV) : Option (AV × St × (AV → AV)) :=
  match g x with
  | .own id off len => match look id st.objs, st.freeze id with
    | some (.row true _ _ els), some st' => if off + len ≤ els.length then some (AV.frz id els (.own id off len), st', fun y => AV.frz id els (g y)) else none
    | _, _ => none
  | y => if y.isData then some (y, st, g) else none
def St.toDataL (st : St) (g : AV → AV) : List AV → Option (List AV × St × (AV → AV))
  | [] => some ([], st, g)
  | x :: xs => match st.toData1 g x with
    | some (y, st1, g1) => match St.toDataL st1 g1 xs with
      | some (ys, st2, g2) => some (y :: ys, st2, g2)
      | none => none
    | none => none
def St.toDataE (st : St) (g : AV → AV) (x : AV) : Option (AV × St × (AV → AV)) :=
  match x with
  | .agg l => match st.toDataL g l with
    | some (ys, st1, g1) => some (.agg ys, st1, g1)
    | none => none
  | x => st.toData1 g x
def St.toDataEs (st : St) (g : AV → AV) : List AV → Option (List AV × St × (AV → AV))
  | [] => some ([], st, g)
  | x :: xs => match st.toDataE g x with
    | some (y, st1, g1) => match St.toDataEs st1 g1 xs with
      | some (ys, st2, g2) => some (y :: ys, st2, g2)
      | none => none
    | none => none

/-- what a step of the making of data gives -/
def DataStep (a : Act) (w : World) (e0 e : Env) (st' : St) (g' : AV → AV) (Q : Env → Prop) : Prop :=
  ∃ e', Conc st' a w e' ∧ Fr w e w e' ∧ Turns w e0 w e' g' ∧ Q e'

theorem toData1_step {st st' : St} {g g' : AV → AV} {a : Act} {w : World} {e0 e : Env} {x y : AV} (h : Conc st a w e) (hg : Turns w e0 w e g) (hr : st.toData1 g x = some (y, st', g')) :
    DataStep a w e0 e st' g' fun e' => y.isData = true ∧ ∀ v, Rd w e0 x v → RdD w e'.q y v := by
  unfold St.toData1 at hr
  split at hr
  · rename_i id off len hgx
    split at hr
    · rename_i ty sz els st1 ho hf
      split at hr
      · rename_i hle
        cases hr
        obtain ⟨c1, c2, c3⟩ := h.freeze hf
        have ht := c3 _ _ _ ho
        have hd : (AV.frz id els (.own id off len)).isData = true := by simp [AV.frz, hle, AV.isData]
        refine ⟨_, c1, c2, fun z v hz => ht _ _ (hg _ _ hz), hd, fun v hv => ?_⟩
        have h1 := hg _ _ hv
        rw [hgx] at h1
        exact (ht _ _ h1).toData hd
      · cases hr
    · cases hr
  · split at hr
    · rename_i hd
      cases hr
      exact ⟨e, h, Fr.refl w e, hg, hd, fun v hv => (hg _ _ hv).toData hd⟩
    · cases hr

theorem toDataL_step : ∀ {l ys : List AV} {st st' : St} {g g' : AV → AV} {a : Act} {w : World} {e0 e : Env}, Conc st a w e → Turns w e0 w e g → st.toDataL g l = some (ys, st', g') →
    DataStep a w e0 e st' g' fun e' => ys.length = l.length ∧ AV.isDataL ys = true ∧ ∀ (i : Nat) (x y : AV) (v : Value), l[i]? = some x → ys[i]? = some y → Rd w e0 x v → RdD w e'.q y v
  | [], ys, st, st', g, g', a, w, e0, e, h, hg, hr => by
    cases hr
    exact ⟨e, h, Fr.refl w e, hg, rfl, rfl, fun i x y v hx => by simp at hx⟩
  | x :: xs, ys, st, st', g, g', a, w, e0, e, h, hg, hr => by
    simp only [St.toDataL] at hr
    split at hr
    · rename_i y st1 g1 h1
      split at hr
      · rename_i ys' st2 g2 h2
        cases hr
        obtain ⟨e1, c1, f1, t1, d1, k1⟩ := toData1_step h hg h1
        obtain ⟨e2, c2, f2, t2, l2, d2, k2⟩ := toDataL_step c1 t1 h2
        refine ⟨e2, c2, f1.trans f2, t2, by simp [l2], by simp [AV.isDataL, d1, d2], fun i z y' v hz hy' hv => ?_⟩
        cases i with
        | zero => simp at hz hy'; subst hz; subst hy'; exact (k1 v hv).fr f2
        | succ i => exact k2 i z y' v (by simpa using hz) (by simpa using hy') hv
      · cases hr
    · cases hr

theorem toDataE_step {st st' : St} {g g' : AV → AV} {a : Act} {w : World} {e0 e : Env} {x y : AV} (h : Conc st a w e) (hg : Turns w e0 w e g) (hr : st.toDataE g x = some (y, st', g')) :
    DataStep a w e0 e st' g' fun e' => y.isData = true ∧ ∀ v, Rd w e0 x v → RdD w e'.q y v := by
  unfold St.toDataE at hr
  split at hr
  · rename_i l
    split at hr
    · rename_i ys st1 g1 h1
      cases hr
      obtain ⟨e1, c1, f1, t1, l1, d1, k1⟩ := toDataL_step h hg h1
      refine ⟨e1, c1, f1, t1, by simpa [AV.isData] using d1, fun v hv => ?_⟩
      obtain ⟨vs, rfl, hs, hr⟩ := hv.agg_inv
      refine .agg _ vs (by rw [hs, l1]) fun i y u hy hu => ?_
      have hlt : i < l.length := by rw [← l1]; exact (List.getElem?_eq_some_iff.1 hy).1
      exact k1 i _ y u (List.getElem?_eq_getElem hlt) hy (hr i _ u (List.getElem?_eq_getElem hlt) hu)
    · cases hr
  · exact toData1_step h hg hr

theorem toDataEs_step : ∀ {l ys : List AV} {st st' : St} {g g' : AV → AV} {a : Act} {w : World} {e0 e : Env}, Conc st a w e → Turns w e0 w e g → st.toDataEs g l = some (ys, st', g') →
    DataStep a w e0 e st' g' fun e' => ys.length = l.length ∧ AV.isDataL ys = true ∧ ∀ (i : Nat) (x y : AV) (v : Value), l[i]? = some x → ys[i]? = some y → Rd w e0 x v → RdD w e'.q y v
  | [], ys, st, st', g, g', a, w, e0, e, h, hg, hr => by
    cases hr
    exact ⟨e, h, Fr.refl w e, hg, rfl, rfl, fun i x y v hx => by simp at hx⟩
  | x :: xs, ys, st, st', g, g', a, w, e0, e, h, hg, hr => by
    simp only [St.toDataEs] at hr
    split at hr
    · rename_i y st1 g1 h1
      split at hr
      · rename_i ys' st2 g2 h2
        cases hr
        obtain ⟨e1, c1, f1, t1, d1, k1⟩ := toDataE_step h hg h1
        obtain ⟨e2, c2, f2, t2, l2, d2, k2⟩ := toDataEs_step c1 t1 h2
        refine ⟨e2, c2, f1.trans f2, t2, by simp [l2], by simp [AV.isDataL, d1, d2], fun i z y' v hz hy' hv => ?_⟩
        cases i with
        | zero => simp at hz hy'; subst hz; subst hy'; exact (k1 v hv).fr f2
        | succ i => exact k2 i z y' v (by simpa using hz) (by simpa using hy') hv
      · cases hr
    · cases hr

theorem Turns.refl (w : World) (e : Env) : Turns w e w e id := fun _ _ h => h

/-! ### a slice's literal -/
theorem fill_seq (size : Nat) : ∀ (vs : List (Nat × Value)) (k : Nat) (cs : Array Value), (∀ (i : Nat) (q : Nat × Value), vs[i]? = some q → q.1 = k + i ∧ q.2.cells.size = size) → (k + vs.length) * size ≤ cs.size →
    ∃ cs', Instr.fill (fun i => some (i * size, size)) cs vs = some cs' ∧ cs'.size = cs.size ∧ (∀ p, p < k * size → cs'[p]? = cs[p]?) ∧
      ∀ (i : Nat) (q : Nat × Value), vs[i]? = some q → ∀ j, j < size → cs'[(k + i) * size + j]? = q.2.cells[j]?
  | [], k, cs, _, _ => ⟨cs, rfl, rfl, fun _ _ => rfl, fun i q hq => by simp at hq⟩
  | (i0, v) :: vs, k, cs, h, hle => by
    obtain ⟨h1, h2⟩ := h 0 _ rfl
    simp only [Nat.add_zero] at h1
    subst h1
    simp only [List.length_cons] at hle
    have hle' : i0 * size + size ≤ cs.size := by
      have : (i0 + (vs.length + 1)) * size = i0 * size + size + vs.length * size := by rw [Nat.add_mul, Nat.add_mul]; omega
      omega
    obtain ⟨g1, g2⟩ := fill_one cs (i0 * size) v (by rw [h2]; exact hle')
    obtain ⟨cs', k1, k2, k3, k4⟩ := fill_seq size vs (i0 + 1) _ (fun i q hq => by
      obtain ⟨a, b⟩ := h (i + 1) q (by simpa using hq); exact ⟨by omega, b⟩) (by rw [g1, show i0 + 1 + vs.length = i0 + (vs.length + 1) from by omega]; exact hle)
    have hstep : (i0 + 1) * size = i0 * size + size := by rw [Nat.add_mul, Nat.one_mul]
    refine ⟨cs', ?_, by rw [k2, g1], fun p hp => ?_, fun i q hq j hj => ?_⟩
    · simp only [Instr.fill]
      rw [if_neg (by rw [h2]; simp; exact hle')]
      exact k1
    · rw [k3 p (by omega), g2, if_neg (by omega)]
    · cases i with
      | zero =>
        simp at hq; subst hq
        rw [Nat.add_zero, k3 _ (by omega), g2, if_pos (by rw [h2]; omega)]
        congr 1; omega
      | succ i =>
        have := k4 i q (by simpa using hq) j hj
        rw [show i0 + 1 + i = i0 + (i + 1) from by omega] at this
        exact this

def isSeq (k : Nat) : List Nat → Bool
  | [] => true
  | i :: r => i == k && isSeq (k + 1) r

theorem isSeq_get : ∀ {l : List Nat} {k : Nat}, isSeq k l = true → ∀ (i x : Nat), l[i]? = some x → x = k + i
  | y :: r, k, h, i, x, hx => by
    simp only [isSeq, Bool.and_eq_true, beq_iff_eq] at h
    cases i with
    | zero => simp at hx; omega
    | succ i => have := isSeq_get h.2 i x (by simpa using hx); omega

/-- The slice's literal [p0, p1, ..]: a row of data under id. -/
def St.buildSlice (st : St) (te : TI) (el : TypeId) (id len : Nat) (parts : List (Nat × AV)) : Option (AV × St) :=
  if isSeq 0 (parts.map (·.1)) = true ∧ parts.length = len ∧ len * te.size ≤ 16777216 ∧ len ≤ 16777216 ∧ 0 < te.size ∧ unp id then
    match st.toDataEs (fun x => x) (parts.map (·.2)) with
    | some (ys, st1, _) => if ys.all (fun y => y.fit && decide (y.cells.length = te.size)) then some (.own id 0 len, st1.renew id (.row true el te.size ys)) else none
    | none => none
  else none

theorem Conc.buildSlice {st st' : St} {a : Act} {w : World} {e : Env} (h : Conc st a w e) {t el : TypeId} {ti te : TI} (hti : TIOk P t ti) (hd : ti.desc = .slice el) (hte : TIOk P el te) {id len : Nat} {parts : List (Nat × AV)} {vparts : List (Nat × Value)} {r : AV}
    (hl : vparts.length = parts.length) (hp : ∀ (i : Nat) (p : Nat × AV) (q : Nat × Value), parts[i]? = some p → vparts[i]? = some q → p.1 = q.1 ∧ Rd w e p.2 q.2) (hr : st.buildSlice te el id len parts = some (r, st')) :
    ∃ v w' e', (Instr.buildSlice t len vparts.toArray).run P w = .ok v w' ∧ Conc st' a w' e' ∧ Fr w e w' e' ∧ Rd w' e' r v := by
  unfold St.buildSlice at hr
  split at hr
  · rename_i hc
    obtain ⟨hseq, hlen, hbig, hbig2, hz, hu⟩ := hc
    split at hr
    · rename_i ys st1 g1 hda
      split at hr
      · rename_i hall
        cases hr
        obtain ⟨e1, c1, f1, _, l1, d1, k1⟩ := toDataEs_step h (Turns.refl w e) hda
        rw [List.all_eq_true] at hall
        have hall' : ∀ y ∈ ys, y.fit = true ∧ y.cells.length = te.size := fun y hy => by
          have := hall y hy; simp only [Bool.and_eq_true, decide_eq_true_eq] at this; exact this
        have hylen : ys.length = len := by rw [l1, List.length_map, hlen]
        -- each value's reading
        have hval : ∀ (i : Nat) (y : AV) (q : Nat × Value), ys[i]? = some y → vparts[i]? = some q → RdD w e1.q y q.2 := by
          intro i y q hy hq
          have hlt : i < parts.length := by rw [← hl]; exact (List.getElem?_eq_some_iff.1 hq).1
          have hpi : parts[i]? = some parts[i] := List.getElem?_eq_getElem hlt
          exact k1 i parts[i].2 y q.2 (by simp [List.getElem?_map, hpi]) hy (hp i _ q hpi hq).2
        have hvp : ∀ (i : Nat) (q : Nat × Value), vparts[i]? = some q → q.1 = 0 + i ∧ q.2.cells.size = te.size := by
          intro i q hq
          have hlt : i < parts.length := by rw [← hl]; exact (List.getElem?_eq_some_iff.1 hq).1
          have hpi : parts[i]? = some parts[i] := List.getElem?_eq_getElem hlt
          have hyi : ys[i]? = some ys[i] := List.getElem?_eq_getElem (by rw [hylen, ← hlen]; exact hlt)
          have h1 := (hp i _ q hpi hq).1
          have h2 := isSeq_get hseq i parts[i].1 (by simp [List.getElem?_map, hpi])
          have h3 := hall' ys[i] (List.getElem_mem _)
          have h4 := (Rd.data (e := e1) (hval i _ q hyi hq)).cellsRd h3.1
          exact ⟨by omega, by rw [h4.1.1, h3.2]⟩
        let zs : Array Value := if len * te.size = 0 then #[] else te.zero.cells
        obtain ⟨cs', g1, g2, _, g4⟩ := fill_seq te.size vparts 0 ((Array.range (len * te.size)).map (zs[· % zs.size]!)) hvp (by simp [hl, hlen])
        simp only [Array.size_map, Array.size_range] at g2
        obtain ⟨q1, q2⟩ := c1.alloc id len hu true el te.size ys cs' g2 (by omega) (by unfold maxLen; omega) (fun y hy => (hall' y hy).2) (fun i y hy j z hz' => by
          have hi : i < vparts.length := by rw [hl, hlen, ← hylen]; exact (List.getElem?_eq_some_iff.1 hy).1
          have hq : vparts[i]? = some vparts[i] := List.getElem?_eq_getElem hi
          have h3 := hall' y (List.mem_of_getElem? hy)
          have h4 := (Rd.data (e := e1) (hval i y _ hy hq)).cellsRd h3.1
          have hj : j < te.size := by rw [← h3.2]; exact (List.getElem?_eq_some_iff.1 hz').1
          have hjv : j < vparts[i].2.cells.size := by rw [h4.1.1, h3.2]; exact hj
          have h5 := g4 i _ hq j hj
          rw [Nat.zero_add] at h5
          refine ⟨vparts[i].2.cells[j], by rw [h5, Array.getElem?_eq_getElem hjv], h4.2 j _ (Array.getElem?_eq_getElem hjv), ?_⟩
          simp only [CellRd, if_true]
          exact (h4.1.2 j z _ hz' (Array.getElem?_eq_getElem hjv)).toData (by
            have hyd : y.isData = true := AV.isDataL_mem d1 (List.mem_of_getElem? hy)
            cases y <;> simp only [AV.cells, List.getElem?_singleton] at hz' <;> first
              | (simp only [AV.isData] at hyd; exact AV.isDataL_mem hyd (List.mem_of_getElem? hz'))
              | (split at hz' <;> cases hz'; exact hyd)))
        have hobj : Obj.map (AV.kill id) (.row true el te.size ys) = .row true el te.size ys := rfl
        rw [hobj] at q1
        refine ⟨.slice (some ⟨w.heap.size, 0, none⟩) len len, _, _, ?_, q1, f1.trans q2, ?_⟩
        · have hrun : (Instr.buildSlice t len vparts.toArray).run P w = .ok (.slice (some ⟨w.heap.size, 0, none⟩) len len) (w.alloc (.cells cs' el)) := by
            simp only [Instr.buildSlice, Sem.run_bind, run_und hti, Result.andThen_ok, hd, run_size hte]
            rw [if_neg (by omega)]
            by_cases h0 : len * te.size = 0
            · simp only [h0, if_true, Sem.run_bind, Sem.run_pure, Result.andThen_ok]
              simp only [zs, h0, if_true] at g1
              simp only [g1]
              simp [newRow]
            · simp only [h0, if_false, Sem.run_bind, run_zero hte, Sem.run_pure, Result.andThen_ok]
              simp only [zs, h0, if_false] at g1
              simp [g1, newRow, World.alloc_eq]
          exact hrun
        · have := Rd.own (w := w.alloc (.cells cs' el)) (e := e1.set id (mt (some w.heap.size) (len) (te.size))) id 0 len (mt (some w.heap.size) (len) (te.size)) w.heap.size (by simp [Env.set]) rfl (by simp)
          simpa using this
      · cases hr
    · cases hr
  · cases hr
#print axioms Conc.buildSlice
end
end Go.Sim
