/- What the operations do on abstract values: structs, literals, builtins that only reckon. -/
import Derived.Test.YtggbbldoopfejaaSd
namespace Go.Sim
open Go.RowKit
section
variable {P : Program}

/-! ### a part of a struct's value -/
theorem run_partA {t : TypeId} {ti : TI} (h : TIOk P t ti) {w : World} {e : Env} {l : List AV} {vs : Array Value} {off : Nat} {r : AV} (hs : vs.size = l.length)
    (hr : ∀ (i : Nat) (x : AV) (u : Value), l[i]? = some x → vs[i]? = some u → Rd w e x u) (hx : loadCellsA ti l off = some r) : ∃ v, (part t vs off).run P w = .ok v w ∧ Rd w e r v := by
  unfold loadCellsA at hx
  simp only [part, Sem.run_bind, run_agg h, Result.andThen_ok]
  cases ha : isAggD ti.desc with
  | false =>
    simp only [ha, Bool.false_eq_true, if_false] at hx ⊢
    have hlt : off < vs.size := by rw [hs]; exact (List.getElem?_eq_some_iff.1 hx).1
    exact ⟨vs[off], by simp [Array.getElem?_eq_getElem hlt], hr off r _ hx (Array.getElem?_eq_getElem hlt)⟩
  | true =>
    simp only [ha, if_true] at hx ⊢
    split at hx
    · cases hx
      refine ⟨.agg (vs.extract off (off + ti.size)), by simp [run_size h], .agg _ _ (by simp; omega) fun i x u hx hu => ?_⟩
      rw [List.getElem?_take] at hx
      split at hx
      · rw [List.getElem?_drop] at hx
        rw [Array.getElem?_extract] at hu
        split at hu
        · exact hr _ x u hx hu
        · cases hu
      · cases hx
    · cases hx

/-! ### filling cells -/
theorem seg_size (off : Nat) : ∀ (vs : List Value) (k : Nat) (cs : Array Value), ((vs.zipIdx k).foldl (fun (cs : Array Value) (x : Value × Nat) => cs.setIfInBounds (off + x.2) x.1) cs).size = cs.size
  | [], k, cs => rfl
  | v :: vs, k, cs => by rw [List.zipIdx_cons, List.foldl_cons, seg_size off vs (k + 1)]; simp

theorem seg_get (off : Nat) : ∀ (vs : List Value) (k : Nat) (cs : Array Value) (i : Nat), off + k + vs.length ≤ cs.size →
    ((vs.zipIdx k).foldl (fun (cs : Array Value) (x : Value × Nat) => cs.setIfInBounds (off + x.2) x.1) cs)[i]? =
      if off + k ≤ i ∧ i < off + k + vs.length then vs[i - (off + k)]? else cs[i]?
  | [], k, cs, i, _ => by simp; omega
  | v :: vs, k, cs, i, h => by
    rw [List.zipIdx_cons, List.foldl_cons, seg_get off vs (k + 1) _ i (by simp at h ⊢; omega)]
    simp only [List.length_cons] at h ⊢
    by_cases h1 : i = off + k
    · subst h1
      rw [if_neg (by omega), if_pos (by omega), Nat.sub_self]
      simp only [Array.getElem?_setIfInBounds, if_true]
      rw [if_pos (by omega)]; rfl
    · by_cases h2 : off + (k + 1) ≤ i ∧ i < off + (k + 1) + vs.length
      · rw [if_pos h2, if_pos (by omega)]
        rw [show i - (off + k) = (i - (off + (k + 1))) + 1 from by omega]; rfl
      · rw [if_neg h2, if_neg (by omega)]
        simp only [Array.getElem?_setIfInBounds]
        rw [if_neg (by omega)]

def setSeg (l : List AV) (off : Nat) (xs : List AV) : List AV := l.take off ++ (xs ++ l.drop (off + xs.length))

theorem setSeg_get (l : List AV) (off : Nat) (xs : List AV) (h : off + xs.length ≤ l.length) (i : Nat) : (setSeg l off xs)[i]? = if off ≤ i ∧ i < off + xs.length then xs[i - off]? else l[i]? := by
  unfold setSeg
  by_cases h1 : i < off
  · rw [List.getElem?_append_left (by simp; omega), List.getElem?_take, if_pos h1, if_neg (by omega)]
  · rw [List.getElem?_append_right (by simp; omega)]
    simp only [List.length_take, Nat.min_eq_left (show off ≤ l.length by omega)]
    by_cases h2 : i < off + xs.length
    · rw [List.getElem?_append_left (by omega), if_pos (by omega)]
    · rw [List.getElem?_append_right (by omega), if_neg (by omega), List.getElem?_drop]
      congr 1; omega
theorem setSeg_length (l : List AV) (off : Nat) (xs : List AV) (h : off + xs.length ≤ l.length) : (setSeg l off xs).length = l.length := by
  simp [setSeg]; omega

/-- cells of a value, and of its abstract value -/
def CellsRd (w : World) (e : Env) (l : List AV) (vs : Array Value) : Prop := vs.size = l.length ∧ ∀ (i : Nat) (x : AV) (v : Value), l[i]? = some x → vs[i]? = some v → Rd w e x v

def AV.one : AV → Bool
  | .val v => v.oneCell'
  | .dead => false
  | .agg _ => false
  | .tup _ => false
  | _ => true
def AV.fit : AV → Bool
  | .agg l => l.all AV.one
  | x => x.one

theorem Rd.one {w : World} {e : Env} {x : AV} {v : Value} (h : Rd w e x v) (h1 : x.one = true) : v.oneCell' = true := by
  cases x with
  | val u => obtain rfl := h.val_inv; simpa [AV.one] using h1
  | dead => simp [AV.one] at h1
  | agg l => simp [AV.one] at h1
  | tup l => simp [AV.one] at h1
  | imm l => cases h with | data h => cases h <;> rfl
  | own id off len =>
    cases h with
    | data h => cases h
    | own0 => rfl
    | ownX => rfl
    | own => rfl
  | ptr => obtain ⟨a, rfl⟩ := ptr_some h; rfl
  | iptr =>
    cases h with
    | data h => cases h
    | iptr => rfl
  | map =>
    cases h with
    | data h => cases h
    | map => rfl
    | mapX => rfl
  | yld =>
    cases h with
    | data h => cases h
    | yld => rfl
    | yldX => rfl
  | clo => obtain ⟨vs, rfl, _⟩ := h.clo_inv; rfl

theorem one_cells {v : Value} (h : v.oneCell' = true) : v.cells = #[v] := by cases v <;> first | rfl | simp [Value.oneCell'] at h

theorem Rd.cellsRd {w : World} {e : Env} {x : AV} {v : Value} (h : Rd w e x v) (hf : x.fit = true) : CellsRd w e x.cells v.cells ∧ ∀ (i : Nat) (u : Value), v.cells[i]? = some u → u.oneCell' = true := by
  by_cases hx : ∃ l, x = .agg l
  · obtain ⟨l, rfl⟩ := hx
    obtain ⟨vs, rfl, hs, hr⟩ := h.agg_inv
    refine ⟨⟨hs, hr⟩, fun i u hu => ?_⟩
    simp only [Value.cells] at hu
    have hlt : i < vs.size := (Array.getElem?_eq_some_iff.1 hu).1
    have hl : l[i]? = some l[i] := List.getElem?_eq_getElem (by omega)
    refine (hr i _ u hl hu).one ?_
    simp only [AV.fit, List.all_eq_true] at hf
    exact hf _ (List.getElem_mem _)
  · have hc : x.cells = [x] := by cases x <;> first | rfl | (exfalso; exact hx ⟨_, rfl⟩)
    have h1 : x.one = true := by cases x <;> first | exact hf | (exfalso; exact hx ⟨_, rfl⟩)
    have hv := h.one h1
    rw [hc, one_cells hv]
    refine ⟨⟨rfl, fun i y u hy hu => ?_⟩, fun i u hu => ?_⟩
    · cases i with
      | zero => simp at hy hu; subst hy; subst hu; exact h
      | succ i => simp at hy
    · cases i with
      | zero => simp at hu; subst hu; exact hv
      | succ i => simp at hu

/-! ### build: a struct's literal -/
def fillA (place : Nat → Option (Nat × Nat)) (cells : List AV) : List (Nat × AV) → Option (List AV)
  | [] => some cells
  | (i, x) :: rest => match place i with
    | none => none
    | some (off, size) => if x.cells.length = size ∧ off + size ≤ cells.length ∧ x.fit then fillA place (setSeg cells off x.cells) rest else none

theorem fill_one (cs : Array Value) (off : Nat) (v : Value) (hle : off + v.cells.size ≤ cs.size) : 
    let r := v.cells.zipIdx.foldl (fun cs (x : Value × Nat) => cs.setIfInBounds (off + x.2) x.1) cs
    r.size = cs.size ∧ ∀ i, r[i]? = if off ≤ i ∧ i < off + v.cells.size then v.cells[i - off]? else cs[i]? := by
  intro r
  have hr : r = (v.cells.toList.zipIdx 0).foldl (fun (cs : Array Value) (x : Value × Nat) => cs.setIfInBounds (off + x.2) x.1) cs := by
    simp only [r]
    rw [← Array.foldl_toList, Array.toList_zipIdx]
  refine ⟨by rw [hr]; exact seg_size _ _ _ _, fun i => ?_⟩
  have := seg_get off v.cells.toList 0 cs i (by simpa using hle)
  rw [hr, this]
  simp

theorem run_fillA {w : World} {e : Env} (place : Nat → Option (Nat × Nat)) : ∀ (parts : List (Nat × AV)) (vparts : List (Nat × Value)) (cells : List AV) (cs : Array Value) (r : List AV),
    CellsRd w e cells cs → (∀ (i : Nat) (u : Value), cs[i]? = some u → u.oneCell' = true) → vparts.length = parts.length →
    (∀ (i : Nat) (p : Nat × AV) (q : Nat × Value), parts[i]? = some p → vparts[i]? = some q → p.1 = q.1 ∧ Rd w e p.2 q.2) → fillA place cells parts = some r →
    ∃ cs', Instr.fill place cs vparts = some cs' ∧ CellsRd w e r cs' ∧ (∀ (i : Nat) (u : Value), cs'[i]? = some u → u.oneCell' = true)
  | [], vparts, cells, cs, r, h, h1, hl, hp, hf => by
    cases hf
    obtain rfl := List.eq_nil_of_length_eq_zero hl
    exact ⟨cs, rfl, h, h1⟩
  | (i, x) :: rest, vparts, cells, cs, r, h, h1, hl, hp, hf => by
    cases vparts with
    | nil => simp at hl
    | cons q vrest =>
      obtain ⟨hi, hx⟩ := hp 0 _ q rfl rfl
      obtain ⟨iq, v⟩ := q
      simp only at hi hx
      subst hi
      simp only [fillA] at hf
      split at hf
      · cases hf
      rename_i off size hpl
      split at hf
      · rename_i hc
        obtain ⟨hc1, hc2, hc3⟩ := hc
        obtain ⟨⟨hcs, hcr⟩, hone⟩ := hx.cellsRd hc3
        have hsz : v.cells.size = size := by rw [hcs, hc1]
        obtain ⟨g1, g2⟩ := fill_one cs off v (by rw [hsz, h.1]; exact hc2)
        obtain ⟨cs', k1, k2, k3⟩ := run_fillA place rest vrest (setSeg cells off x.cells) _ r ⟨by rw [g1, h.1, setSeg_length _ _ _ (by rw [hc1]; exact hc2)], fun j y u hy hu => by
            rw [g2] at hu
            rw [setSeg_get _ _ _ (by rw [hc1]; exact hc2), hc1] at hy
            rw [hsz] at hu
            by_cases hj : off ≤ j ∧ j < off + size
            · rw [if_pos hj] at hu hy; exact hcr _ y u hy hu
            · rw [if_neg hj] at hu hy; exact h.2 _ y u hy hu⟩ (fun j u hu => by
            rw [g2] at hu
            split at hu
            · exact hone _ u hu
            · exact h1 _ u hu) (by simpa using hl) (fun j p q hp' hq => hp (j + 1) p q (by simpa using hp') (by simpa using hq)) hf
        refine ⟨cs', ?_, k2, k3⟩
        simp only [Instr.fill, hpl]
        rw [if_neg (by rw [hsz, h.1]; simp; exact hc2)]
        exact k1
      · cases hf

/-- the zero value's cells -/
def zeroCellsA (z : Value) : List AV := z.cells.toList.map .val
def zeroA (z : Value) : AV := match z with
  | .agg cs => .agg (cs.toList.map .val)
  | v => .val v
theorem zeroA_cells (z : Value) : (zeroA z).cells = zeroCellsA z := by cases z <;> rfl
theorem zeroA_fit (z : Value) (h : z.cells.all (·.oneCell') = true) : (zeroA z).fit = true := by
  cases z <;> first
    | (simp [Value.cells] at h; simpa [zeroA, AV.fit, AV.one] using h)
    | rfl
theorem zeroA_data (z : Value) : (zeroA z).isData = true := by
  have : ∀ l : List Value, AV.isDataL (l.map .val) = true := by
    intro l; induction l with
    | nil => rfl
    | cons x xs ih => simp [AV.isDataL, AV.isData, ih]
  cases z <;> first | exact this _ | rfl
theorem rd_zeroA {w : World} {e : Env} (z : Value) : Rd w e (zeroA z) z := by
  cases z <;> first
    | exact .data (.val _)
    | exact .agg _ _ (by simp) (fun i x v hx hv => by
        simp at hx; obtain ⟨u, hu, rfl⟩ := hx
        rw [hv] at hu; cases hu; exact .data (.val _))
theorem zeroCells_rd {w : World} {e : Env} (z : Value) : CellsRd w e (zeroCellsA z) z.cells :=
  ⟨by simp [zeroCellsA], fun i x v hx hv => by
    simp [zeroCellsA] at hx; obtain ⟨u, hu, rfl⟩ := hx
    rw [hv] at hu; cases hu; exact .data (.val _)⟩

/-- the fields' places, off the table -/
def placesA (Γ : TypeId → Option TI) (fs : List Field) : Option (List (Nat × Nat)) :=
  match fs with
  | [] => some []
  | f :: r => match Γ f.type, placesA Γ r with
    | some ti, some l => some ((f.offset, ti.size) :: l)
    | _, _ => none

theorem run_placesA {Γ : TypeId → Option TI} (hΓ : TOk P Γ) (w : World) : ∀ (fs : List Field) (l : List (Nat × Nat)), placesA Γ fs = some l →
    (fs.mapM fun f => (do pure (f.offset, ← sizeOf f.type) : Sem (Nat × Nat))).run P w = .ok l w
  | [], l, h => by cases h; rfl
  | f :: r, l, h => by
    simp only [placesA] at h
    split at h
    · rename_i ti l' h1 h2
      cases h
      rw [List.mapM_cons]
      simp only [Sem.run_bind, run_size (hΓ _ _ h1), Result.andThen_ok, Sem.run_pure, run_placesA hΓ w r l' h2]
    · cases h

def buildA (Γ : TypeId → Option TI) (ti : TI) (parts : List (Nat × AV)) : Option AV :=
  match ti.desc with
  | .struct fs => match placesA Γ fs.toList with
    | some pl => (fillA (pl[·]?) (zeroCellsA ti.zero) parts).map .agg
    | none => none
  | _ => none

theorem run_buildA {Γ : TypeId → Option TI} (hΓ : TOk P Γ) {t : TypeId} {ti : TI} (h : TIOk P t ti) {w : World} {e : Env} {parts : List (Nat × AV)} {vparts : List (Nat × Value)} {r : AV} (hl : vparts.length = parts.length)
    (hp : ∀ (i : Nat) (p : Nat × AV) (q : Nat × Value), parts[i]? = some p → vparts[i]? = some q → p.1 = q.1 ∧ Rd w e p.2 q.2) (hr : buildA Γ ti parts = some r) :
    ∃ v, (Instr.build t vparts.toArray).run P w = .ok v w ∧ Rd w e r v := by
  unfold buildA at hr
  split at hr
  · rename_i fs hd
    split at hr
    · rename_i pl hpl
      have hone := h.zone
      obtain ⟨l, hl', rfl⟩ := Option.map_eq_some_iff.1 hr
      obtain ⟨cs', k1, k2, _⟩ := run_fillA (w := w) (e := e) (pl[·]?) parts vparts _ ti.zero.cells l (zeroCells_rd _) (fun i u hu => by
        rw [Array.all_eq_true_iff_forall_mem] at hone
        exact hone u (Array.mem_of_getElem? hu)) hl hp hl'
      refine ⟨.agg cs', ?_, .agg _ _ k2.1 k2.2⟩
      have hm := run_placesA hΓ w fs.toList pl hpl
      have hm' : (fs.mapM fun f => (do pure (f.offset, ← sizeOf f.type) : Sem (Nat × Nat))).run P w = .ok pl.toArray w := by
        rw [Array.mapM_eq_mapM_toList]
        simp only [Sem.run_map, hm, Result.andThen_ok]
      simp only [Instr.build, Sem.run_bind, run_zero h, Result.andThen_ok, run_und h, hd, hm']
      have : (fun (x : Nat) => pl.toArray[x]?) = (fun (x : Nat) => pl[x]?) := by funext x; simp
      simp only [this, k1]
      simp
    · cases hr
  · cases hr

/-! ### len, min, max, cap -/
def lenA (ti : TI) (x : AV) : Option AV :=
  match ti.desc, x with
  | .slice _, .imm l => some (.val (.int .i64 l.length))
  | .slice _, .own _ _ len => some (.val (.int .i64 len))
  | .slice _, .val (.slice none n _) => some (.val (.int .i64 n))
  | .string, .val (.string s) => some (.val (.int .i64 s.size))
  | .array n _, _ => some (.val (.int .i64 n))
  | .map _ _, .val (.map none) => some (.val (.int .i64 0))
  | _, _ => none

theorem run_lenA {t : TypeId} {ti : TI} (h : TIOk P t ti) {w : World} {e : Env} {x r : AV} {vx : Value} (hx : Rd w e x vx) (hr : lenA ti x = some r) (ty : TypeId) : ∃ v, (Builtin.len_ #[t] ty #[vx]).run P w = .ok v w ∧ Rd w e r v := by
  unfold lenA at hr
  split at hr <;> (try cases hr)
  · rename_i el l hd
    cases hx with
    | data hx =>
      cases hx with
      | imm0 a cap => exact ⟨goInt 0, by simp [Builtin.len_, run_und h, hd], .data (.val _)⟩
      | imm => exact ⟨goInt l.length, by simp [Builtin.len_, run_und h, hd], .data (.val _)⟩
  · rename_i el id off len hd
    cases hx with
    | data hx => cases hx
    | own0 => exact ⟨goInt 0, by simp [Builtin.len_, run_und h, hd], .data (.val _)⟩
    | own => exact ⟨goInt len, by simp [Builtin.len_, run_und h, hd], .data (.val _)⟩
    | ownX => exact ⟨goInt len, by simp [Builtin.len_, run_und h, hd], .data (.val _)⟩
  · rename_i el n c hd
    obtain rfl := hx.val_inv
    exact ⟨goInt n, by simp [Builtin.len_, run_und h, hd], .data (.val _)⟩
  · rename_i s hd
    obtain rfl := hx.val_inv
    exact ⟨goInt s.size, by simp [Builtin.len_, run_und h, hd], .data (.val _)⟩
  · rename_i n el hd
    exact ⟨goInt n, by simp [Builtin.len_, run_und h, hd], .data (.val _)⟩
  · rename_i k el hd
    obtain rfl := hx.val_inv
    exact ⟨goInt 0, by simp [Builtin.len_, run_und h, hd], .data (.val _)⟩

def minA (mx : Bool) : Value → List AV → Option Value
  | x, [] => some x
  | .int k a, .val (.int _ b) :: r => minA mx (.int k (if mx then (if b > a then b else a) else (if b < a then b else a))) r
  | _, _ => none

theorem run_minA {w : World} {e : Env} (mx : Bool) : ∀ (l : List AV) (vs : List Value) (x r : Value), vs.length = l.length → (∀ (i : Nat) (y : AV) (v : Value), l[i]? = some y → vs[i]? = some v → Rd w e y v) → minA mx x l = some r →
    (vs.foldlM (if mx then Builtin.max2 else Builtin.min2) x).run P w = .ok r w
  | [], vs, x, r, hl, hr, h => by
    obtain rfl := List.eq_nil_of_length_eq_zero hl
    cases x <;> (cases h; simp)
  | y :: l, [], x, r, hl, hr, h => by simp at hl
  | y :: l, v :: vs, x, r, hl, hr, h => by
    unfold minA at h
    split at h
    · rename_i heq; cases heq
    · rename_i k a k' b rest heq
      cases heq
      have := hr 0 _ v rfl rfl
      obtain rfl := this.val_inv
      have ih := run_minA mx l vs _ r (by simpa using hl) (fun i y v h1 h2 => hr (i + 1) y v (by simpa using h1) (by simpa using h2)) h
      rw [List.foldlM_cons, Sem.run_bind]
      have e1 : ((if mx then Builtin.max2 else Builtin.min2) (.int k a) (.int k' b)).run P w = .ok (.int k (if mx then (if b > a then b else a) else (if b < a then b else a))) w := by
        cases mx <;> simp [Builtin.max2, Builtin.min2]
      rw [e1, Result.andThen_ok]
      exact ih
    · cases h
#print axioms run_minA
end
end Go.Sim
