/- Maps: made, read, written, asked for their length. -/
import Derived.Test.YtggbbldoopfejaaSg
namespace Go.Sim
open Go.RowKit
section
variable {P : Program}

/-! ### keys -/
def sameKey : Value → Value → Bool
  | .int q a, .int q' b => q == q' && a == b
  | .string a, .string b => a.data == b.data
  | .agg xs, .agg ys => eqVals xs.toList ys.toList == some true
  | _, _ => false
def getM (k : Value) : List (Value × AV) → Option AV
  | [] => none
  | (k', v) :: r => if sameKey k k' = true then some v else getM k r
def setM (k : Value) (v : AV) : List (Value × AV) → List (Value × AV)
  | [] => [(k, v)]
  | (k', v') :: r => if sameKey k k' = true then (k, v) :: r else (k', v') :: setM k v r
def delM (k : Value) : List (Value × AV) → List (Value × AV)
  | [] => []
  | (k', v') :: r => if sameKey k k' = true then r else (k', v') :: delM k r

theorem wfI64_inv {x : Value} (h : wfI64 x = true) : ∃ a, x = .int .i64 a := by
  unfold wfI64 at h
  split at h
  · exact ⟨_, rfl⟩
  · cases h
theorem eqVals_i64 : ∀ (xs ys : List Value), xs.all wfI64 = true → ys.all wfI64 = true → (eqVals xs ys = some true ↔ xs = ys)
  | [], [], _, _ => by simp [eqVals]
  | [], y :: ys, _, _ => by simp [eqVals]
  | x :: xs, [], hx, _ => by
    simp only [List.all_cons, Bool.and_eq_true] at hx
    obtain ⟨a, rfl⟩ := wfI64_inv hx.1
    simp [eqVals]
  | x :: xs, y :: ys, hx, hy => by
    simp only [List.all_cons, Bool.and_eq_true] at hx hy
    have ih := eqVals_i64 xs ys hx.2 hy.2
    obtain ⟨a, rfl⟩ := wfI64_inv hx.1
    obtain ⟨b, rfl⟩ := wfI64_inv hy.1
    simp only [eqVals, if_true, Option.map_eq_some_iff, Bool.and_eq_true, beq_iff_eq, List.cons.injEq, Value.int.injEq, true_and]
    constructor
    · rintro ⟨r, h1, h2, rfl⟩; exact ⟨h2, ih.1 h1⟩
    · rintro ⟨h1, h2⟩; exact ⟨true, ih.2 h2, h1, rfl⟩

theorem sameKey_iff {sh a b : Value} (ha : fitsKey sh a = true) (hb : fitsKey sh b = true) : sameKey a b = true ↔ a = b := by
  cases sh <;> cases a <;> simp only [fitsKey, Bool.false_eq_true] at ha <;> cases b <;> simp only [fitsKey, Bool.false_eq_true] at hb
  · simp [sameKey]
  · simp only [sameKey, beq_iff_eq, Value.string.injEq]
    exact ⟨fun h => ByteArray.ext h, fun h => by rw [h]⟩
  · simp only [Bool.and_eq_true, beq_iff_eq] at ha hb
    simp only [sameKey, beq_iff_eq, Value.agg.injEq]
    rw [eqVals_i64 _ _ ha.2 hb.2]
    constructor
    · intro h; exact Array.ext' h
    · rintro rfl; rfl

theorem getM_none {sh k : Value} (hk : fitsKey sh k = true) : ∀ {l : List (Value × AV)}, (∀ x ∈ l, fitsKey sh x.1 = true) → (∀ x ∈ l, x.1 ≠ k) → getM k l = none ∧ (∀ v, setM k v l = l ++ [(k, v)]) ∧ delM k l = l
  | [], _, _ => ⟨rfl, fun _ => rfl, rfl⟩
  | (k', v') :: r, hg, hn => by
    have h1 : sameKey k k' = false := by
      cases hs : sameKey k k' with
      | false => rfl
      | true => exact absurd ((sameKey_iff hk (hg (k', v') (by simp))).1 hs).symm (hn (k', v') (by simp))
    obtain ⟨i1, i2, i3⟩ := getM_none hk (l := r) (fun x hx => hg x (by simp [hx])) (fun x hx => hn x (by simp [hx]))
    exact ⟨by simp [getM, h1, i1], fun v => by simp [setM, h1, i2], by simp [delM, h1, i3]⟩
theorem getM_some {sh k : Value} (hk : fitsKey sh k = true) : ∀ {l : List (Value × AV)} {j : Nat} {v : AV}, (∀ x ∈ l, fitsKey sh x.1 = true) → (l.map (·.1)).Nodup → l[j]? = some (k, v) → getM k l = some v ∧ (∀ u, setM k u l = l.set j (k, u)) ∧ delM k l = l.eraseIdx j
  | [], j, v, _, _, hj => by simp at hj
  | (k', v') :: r, j, v, hg, hd, hj => by
    simp only [List.map_cons, List.nodup_cons] at hd
    cases j with
    | zero =>
      simp only [List.getElem?_cons_zero, Option.some.injEq, Prod.mk.injEq] at hj
      obtain ⟨rfl, rfl⟩ := hj
      have h1 := (sameKey_iff hk hk).2 rfl
      exact ⟨by simp [getM, h1], fun u => by simp [setM, h1], by simp [delM, h1]⟩
    | succ j =>
      simp only [List.getElem?_cons_succ] at hj
      have h1 : sameKey k k' = false := by
        cases hs : sameKey k k' with
        | false => rfl
        | true =>
          have := (sameKey_iff hk (hg (k', v') (by simp))).1 hs
          subst this
          exact absurd (List.mem_map.2 ⟨_, List.mem_of_getElem? hj, rfl⟩) hd.1
      obtain ⟨i1, i2, i3⟩ := getM_some hk (l := r) (fun x hx => hg x (by simp [hx])) hd.2 hj
      exact ⟨by simp [getM, h1, i1], fun u => by simp [setM, h1, i2], by simp [delM, h1, i3]⟩

/-- where a key is found in memory -/
theorem mapFind {w : World} {e : Env} {m : Mta} {sh : Value} {ents : List (Value × AV)} (hk : MapOk w e m sh ents) {kt : TypeId} (hK : KeyTI P kt sh) {k : Value} (hf : fitsKey sh k = true) : ∃ b es clock, m.blk = some b ∧ w.heap[b]? = some (.map es clock) ∧ es.size = ents.length ∧ es.size ≤ maxLen ∧
    (∀ (i : Nat) (k : Value) (x : AV), ents[i]? = some (k, x) → ∃ en, es[i]? = some en ∧ en.key = k ∧ RdD w e.q x en.val) ∧ (∀ em, (Instr.checkKey em 10000 kt k).run P w = .ok () w) ∧
    (((Instr.findKey kt k es.toList).run P w = .ok none w ∧ ∀ x ∈ ents, x.1 ≠ k) ∨ ∃ j en v, (Instr.findKey kt k es.toList).run P w = .ok (some (j, en.val)) w ∧ es[j]? = some en ∧ en.key = k ∧ ents[j]? = some (k, v) ∧ RdD w e.q v en.val) := by
  obtain ⟨b, es, clock, h1, h2, h3, h4, h5⟩ := hk.blk
  obtain ⟨K, hK⟩ := hK
  obtain ⟨l, hl⟩ := hK k hf
  have hall : ∀ en ∈ es.toList, ∃ l, keyOf P kt en.key = some l := by
    intro en hen
    obtain ⟨i, hi⟩ := List.mem_iff_getElem?.1 hen
    have hlt : i < ents.length := by rw [← h3]; simpa using (List.getElem?_eq_some_iff.1 hi).1
    obtain ⟨en', g1, g2, _⟩ := h5 i _ _ (show ents[i]? = some (ents[i].1, ents[i].2) from List.getElem?_eq_getElem hlt)
    simp only [Array.getElem?_toList] at hi
    rw [hi] at g1; cases g1
    rw [g2]; exact hK _ (hk.good.1 _ (List.getElem_mem _))
  refine ⟨b, es, clock, h1, h2, h3, h4, h5, fun em => K.check w em hl, ?_⟩
  rcases K.find w hl es.toList hall with ⟨g1, g2⟩ | ⟨j, en, g1, g2, g3⟩
  · refine .inl ⟨g1, fun x hx hxk => ?_⟩
    obtain ⟨i, hi⟩ := List.mem_iff_getElem?.1 hx
    obtain ⟨en, q1, q2, _⟩ := h5 i x.1 x.2 hi
    exact g2 en (List.mem_of_getElem? (by simpa using q1)) (q2.trans hxk)
  · simp only [Array.getElem?_toList] at g2
    have hlt : j < ents.length := by rw [← h3]; exact (Array.getElem?_eq_some_iff.1 g2).1
    obtain ⟨en', q1, q2, q3⟩ := h5 j _ _ (show ents[j]? = some (ents[j].1, ents[j].2) from List.getElem?_eq_getElem hlt)
    rw [g2] at q1; cases q1
    exact .inr ⟨j, en, ents[j].2, g1, g2, g3, by rw [List.getElem?_eq_getElem hlt, ← g3, q2], q3⟩

/-! ### what is asked of a map -/
def sameSh : Value → Value → Bool
  | .int q _, .int q' _ => q == q'
  | .string _, .string _ => true
  | .agg a, .agg b => a.size == b.size
  | _, _ => false
theorem sameSh_fits {a b : Value} (h : sameSh a b = true) (v : Value) : fitsKey a v = fitsKey b v := by
  unfold sameSh at h
  split at h
  · simp only [beq_iff_eq] at h; subst h; cases v <;> rfl
  · cases v <;> rfl
  · simp only [beq_iff_eq] at h; cases v <;> simp [fitsKey, h]
  · cases h
theorem KeyTI.same {P : Program} {t : TypeId} {a b : Value} (h : KeyTI P t a) (hs : sameSh a b = true) : KeyTI P t b := ⟨h.1, fun v hv => h.2 v (by rw [sameSh_fits hs]; exact hv)⟩

/-- the shape of keys of a type -/
def keySh (ti : TI) : Option Value := match ti.desc with
  | .int _ => some ti.zero
  | .string => some ti.zero
  | _ => if ti.flat = true then some ti.zero else none
theorem keySh_ok {t : TypeId} {ti : TI} (h : TIOk P t ti) (hz : (match ti.desc with | .int q => (match ti.zero with | .int q' _ => q' == q | _ => false) | .string => (match ti.zero with | .string _ => true | _ => false) | _ => true) = true) {sh : Value} (hs : keySh ti = some sh) : KeyTI P t sh := by
  unfold keySh at hs
  split at hs
  · rename_i q hd
    cases hs
    rw [hd] at hz
    simp only at hz
    split at hz
    · rename_i q' z hzz
      simp only [beq_iff_eq] at hz
      subst hz
      rw [hzz]
      refine ⟨Maps.int_keyed (by rw [h.und, hd]), fun v hv => ?_⟩
      cases v <;> simp only [fitsKey, Bool.false_eq_true] at hv
      simp only [Bool.and_eq_true, beq_iff_eq] at hv
      rw [hv.1]
      exact ⟨_, Maps.keyOf_int_mk (by rw [h.und, hd]) hv.2⟩
    · cases hz
  · rename_i hd
    cases hs
    rw [hd] at hz
    simp only at hz
    split at hz
    · rename_i z hzz
      rw [hzz]
      refine ⟨Maps.string_keyed (by rw [h.und, hd]), fun v hv => ?_⟩
      cases v <;> simp only [fitsKey, Bool.false_eq_true] at hv
      rename_i s
      refine ⟨.string s.data.toList, ?_⟩
      have : s.size ≤ maxLen := by simpa using hv
      simp [keyOf, h.und, hd, mapKey, this]
    · cases hz
  · split at hs
    · rename_i hf; cases hs; exact (h.flat hf).2
    · cases hs
def keyZ (ti : TI) : Bool := match ti.desc with
  | .int q => (match ti.zero with | .int q' _ => q' == q | _ => false)
  | .string => (match ti.zero with | .string _ => true | _ => false)
  | _ => true

/-- a key as a value -/
def keyV : AV → Option Value
  | .val v => some v
  | .agg l => (AV.vals l).map fun vs => .agg vs.toArray
  | _ => none
theorem vals_rd {w : World} {e : Env} : ∀ {l : List AV} {vs : List Value} {us : List Value}, AV.vals l = some vs → us.length = l.length → (∀ (i : Nat) (x : AV) (u : Value), l[i]? = some x → us[i]? = some u → Rd w e x u) → us = vs
  | [], vs, us, h, hl, _ => by cases h; exact List.eq_nil_of_length_eq_zero hl
  | x :: xs, vs, us, h, hl, hr => by
    cases us with
    | nil => simp at hl
    | cons u us =>
      unfold AV.vals at h
      split at h <;> first | (rename_i heq; cases heq; done) | skip
      · rename_i v rest heq
        cases heq
        obtain ⟨vs', h1, rfl⟩ := Option.map_eq_some_iff.1 h
        have e1 := vals_rd (w := w) (e := e) h1 (us := us) (by simpa using hl) (fun i y v h2 h3 => hr (i + 1) y v (by simpa using h2) (by simpa using h3))
        have e2 := (hr 0 _ u rfl rfl).val_inv
        rw [e1, e2]
      · cases h
theorem keyV_rd {w : World} {e : Env} {x : AV} {k v : Value} (hk : keyV x = some k) (hx : Rd w e x v) : v = k := by
  unfold keyV at hk
  split at hk
  · cases hk; exact hx.val_inv
  · obtain ⟨vs, h1, rfl⟩ := Option.map_eq_some_iff.1 hk
    obtain ⟨us, rfl, hs, hr⟩ := hx.agg_inv
    have := vals_rd (us := us.toList) h1 (by simpa using hs) (fun i x u h2 h3 => hr i x u h2 (by simpa using h3))
    rw [← this]
  · cases hk

theorem map_inv {w : World} {e : Env} {id : Nat} {v : Value} (h : Rd w e (.map id) v) (hn : ∀ m, e.get id = some m → ¬ m.gone) : ∃ m b, e.get id = some m ∧ m.blk = some b ∧ v = .map (some b) := by
  cases h with
  | data h => cases h
  | mapX _ m hm hg b => exact absurd hg (hn m hm)
  | map _ m b hm hb => exact ⟨m, b, hm, hb, rfl⟩

/-- m[k] -/
def lookupA (tk te : TI) (objs : List (Nat × Obj)) (m k : AV) (ok : Bool) : Option AV :=
  match m, keyV k with
  | .map id, some kv => match look id objs, keySh tk, keyZ tk with
    | some (.mp sh ents), some sh', true => if sameSh sh' sh = true ∧ fitsKey sh kv = true then
        (match getM kv ents with
        | some v => some (if ok then .tup [v, .val (.bool true)] else v)
        | none => some (if ok then .tup [zeroA te.zero, .val (.bool false)] else zeroA te.zero)) else none
    | _, _, _ => none
  | _, _ => none

theorem zeroA_rdD {w : World} {q : Nat → Prop} (z : Value) : RdD w q (zeroA z) z := by
  cases z <;> simp only [zeroA] <;> first | exact .val _ | skip
  rename_i xs
  refine .agg _ xs (by simp [zeroCellsA, Value.cells]) fun i x v hx hv => ?_
  simp only [zeroCellsA, Value.cells, List.getElem?_map, Array.getElem?_toList] at hx
  rw [hv] at hx
  simp at hx; subst hx; exact .val _

theorem run_lookupA {st : St} {w : World} {e : Env} {t kt et : TypeId} (ht : P.underlying t = some (.map kt et)) {tk te : TI} (hk : TIOk P kt tk) (he : TIOk P et te) (hs : ∀ id o m, look id st.objs = some o → e.get id = some m → ObjOk w e m o) {m k r : AV} {ok : Bool} {vm vk : Value}
    (hm : Rd w e m vm) (hkk : Rd w e k vk) (hr : lookupA tk te st.objs m k ok = some r) : ∃ v, (Instr.lookup t vm vk ok).run P w = .ok v w ∧ Rd w e r v := by
  unfold lookupA at hr
  split at hr
  · rename_i id kv hkv
    split at hr
    · rename_i sh ents sh' ho hsh hz
      split at hr
      · rename_i hc
        obtain ⟨hss, hf⟩ := hc
        obtain ⟨mm, b, hm1, hm2, rfl⟩ := map_inv hm fun m hm => (hs id _ m ho hm).ngone
        obtain rfl := keyV_rd hkv hkk
        have hK := (keySh_ok hk hz hsh).same hss
        obtain ⟨b', es, clock, h1, h2, h3, h4, h5, h6, h7⟩ := mapFind (hs id _ mm ho hm1) hK hf
        rw [hm2] at h1; cases h1
        have hz := run_zero he w
        rcases h7 with ⟨g1, g2⟩ | ⟨j, en, v, g1, g2, g3, g4, g5⟩
        · rw [(getM_none hf (hs id _ mm ho hm1).good.1 g2).1] at hr
          simp only [Option.some.injEq] at hr
          refine ⟨if ok then .tuple #[te.zero, .bool false] else te.zero, ?_, ?_⟩
          · simp only [Instr.lookup, Sem.run_bind, run_underlying ht, Result.andThen_ok, MapKept.run_getObj_map h2, Sem.run_pure, h6, g1, hz]
          · subst hr
            cases ok with
            | false => simp only [Bool.false_eq_true, if_false]; exact .data (zeroA_rdD _)
            | true =>
              simp only [if_true]
              refine .tup _ _ rfl fun i x u hx hu => ?_
              rcases i with _ | _ | i
              · simp at hx hu; subst hx; subst hu; exact .data (zeroA_rdD _)
              · simp at hx hu; subst hx; subst hu; exact .data (.val _)
              · simp at hx
        · rw [(getM_some hf (hs id _ mm ho hm1).good.1 (hs id _ mm ho hm1).good.2 g4).1] at hr
          simp only [Option.some.injEq] at hr
          refine ⟨if ok then .tuple #[en.val, .bool true] else en.val, ?_, ?_⟩
          · simp only [Instr.lookup, Sem.run_bind, run_underlying ht, Result.andThen_ok, MapKept.run_getObj_map h2, Sem.run_pure, h6, g1]
          · subst hr
            cases ok with
            | false => simp only [Bool.false_eq_true, if_false]; exact .data g5
            | true =>
              simp only [if_true]
              refine .tup _ _ rfl fun i x u hx hu => ?_
              rcases i with _ | _ | i
              · simp at hx hu; subst hx; subst hu; exact .data g5
              · simp at hx hu; subst hx; subst hu; exact .data (.val _)
              · simp at hx
      · cases hr
    · cases hr
  · cases hr

/-- len(m) -/
def lenM (objs : List (Nat × Obj)) (m : AV) : Option AV :=
  match m with
  | .map id => match look id objs with
    | some (.mp _ ents) => some (.val (.int .i64 ents.length))
    | _ => none
  | _ => none
theorem run_lenM {st : St} {w : World} {e : Env} {t kt et rt : TypeId} (ht : P.underlying t = some (.map kt et)) (hs : ∀ id o m, look id st.objs = some o → e.get id = some m → ObjOk w e m o) {m r : AV} {vm : Value}
    (hm : Rd w e m vm) (hr : lenM st.objs m = some r) : ∃ v, (Builtin.len_ #[t] rt #[vm]).run P w = .ok v w ∧ Rd w e r v := by
  unfold lenM at hr
  split at hr
  · rename_i id
    split at hr
    · rename_i sh ents ho
      cases hr
      obtain ⟨mm, b, hm1, hm2, rfl⟩ := map_inv hm fun m hm => (hs id _ m ho hm).ngone
      obtain ⟨b', es, clock, h1, h2, h3, _⟩ := (hs id _ mm ho hm1).blk
      rw [hm2] at h1; cases h1
      refine ⟨goInt es.size, ?_, ?_⟩
      · simp [Builtin.len_, run_underlying ht, MapKept.run_getObj_map h2]
      · rw [h3]; exact .data (.val _)
    · cases hr
  · cases hr

/-! ### what turns a map -/
def St.makeMap (st : St) (tk : TI) (id : Nat) : Option (AV × St) :=
  match keySh tk with
  | some sh => if unp id then some (.map id, st.renew id (.mp sh [])) else none
  | none => none
theorem Conc.makeMap {st st' : St} {a : Act} {w : World} {e : Env} (h : Conc st a w e) {t : TypeId} {tk : TI} {id : Nat} {r : AV} (hr : st.makeMap tk id = some (r, st')) :
    ∃ v w' e', (Instr.makeMap t none).run P w = .ok v w' ∧ Conc st' a w' e' ∧ Fr w e w' e' ∧ Rd w' e' r v := by
  unfold St.makeMap at hr
  split at hr
  · rename_i sh hsh
    split at hr
    · rename_i hu
      cases hr
      have hfr : Fr w e (w.alloc (.map #[] 0)) (e.set id (mt (some w.heap.size) 0 0)) := by
        refine ⟨rfl, rfl, rfl, by simp, fun b hb _ => heap_alloc_old w _ b hb, fun b ho hb => ?_, rfl, Pinned.of fun j hj => by simp [Env.set, unp_ne hu hj]⟩
        obtain ⟨j, m, hj, hm⟩ := ho
        simp only [Env.set] at hj
        split at hj
        · cases hj; rw [Mta.has_mk] at hm; cases hm; omega
        · exact ⟨j, m, hj, hm⟩
      refine ⟨.map (some w.heap.size), w.alloc (.map #[] 0), _, ?_, h.renew id (.mp sh []) (mt (some w.heap.size) 0 0) hfr (fun b hb j m' hj hm' hb' => ?_) (fun j m' b hj hm' hb' => heap_alloc_old w _ b (h.sim.blk_lt hm' hb')) ?_ (fun b hb => ?_), hfr, ?_⟩
      · rfl
      · rw [Mta.has_mk] at hb; cases hb; have := h.sim.blk_lt hm' hb'; omega
      · exact ⟨fun _ h => h, ⟨fun x hx => by simp at hx, by simp⟩, w.heap.size, #[], 0, rfl, heap_alloc_new w _, rfl, Nat.zero_le _, fun i k x hx => by simp at hx⟩
      · rw [Mta.has_mk] at hb; cases hb; exact h.sim.new _ (Nat.le_refl _)
      · exact .map id (mt (some w.heap.size) 0 0) w.heap.size (by simp [Env.set]) rfl
    · cases hr
  · cases hr

/-- m[k] = x -/
def St.mapSet (st : St) (tk : TI) (m k x : AV) : Option St :=
  match m, keyV k with
  | .map id, some kv => match look id st.objs, keySh tk, keyZ tk with
    | some (.mp sh ents), some sh', true => if sameSh sh' sh = true ∧ fitsKey sh kv = true ∧ x.isData = true ∧ capOk (ents.length + 1) 1 = true then some { st with objs := upd id (.mp sh (setM kv x ents)) st.objs } else none
    | _, _, _ => none
  | _, _ => none

theorem heap_put (w : World) (b : Nat) (o : Go.Obj) (hb : b < w.heap.size) : ({ w with heap := w.heap.setIfInBounds b o } : World).heap[b]? = some o := by simp [hb]
theorem heap_put_other (w : World) (b k : Nat) (o : Go.Obj) (h : k ≠ b) : ({ w with heap := w.heap.setIfInBounds b o } : World).heap[k]? = w.heap[k]? := by
  simp [Array.getElem?_setIfInBounds, Ne.symm h]

/-- a map's block anew -/
theorem Conc.mapWrite {st : St} {a : Act} {w : World} {e : Env} (h : Conc st a w e) {id : Nat} {m : Mta} {b : Nat} {sh : Value} {ents ents' : List (Value × AV)} (ho : look id st.objs = some (.mp sh ents)) (hm : e.get id = some m) (hb : m.blk = some b) {es es' : Array MapEntry} {clock clock' : Nat} (hh : w.heap[b]? = some (.map es clock))
    (hgood : (∀ x ∈ ents', fitsKey sh x.1 = true) ∧ (ents'.map (·.1)).Nodup) (hsz : es'.size = ents'.length) (hmx : es'.size ≤ maxLen)
    (hel : ∀ (i : Nat) (k : Value) (x : AV), ents'[i]? = some (k, x) → ∃ en, es'[i]? = some en ∧ en.key = k ∧ RdD w e.q x en.val) :
    Conc { st with objs := upd id (.mp sh ents') st.objs } a { w with heap := w.heap.setIfInBounds b (.map es' clock') } e ∧ Fr w e { w with heap := w.heap.setIfInBounds b (.map es' clock') } e := by
  have hblt : b < w.heap.size := (Array.getElem?_eq_some_iff.1 hh).1
  have hown : e.owned b := ⟨id, m, hm, .inl hb⟩
  have hfr : Fr w e { w with heap := w.heap.setIfInBounds b (.map es' clock') } e := ⟨rfl, rfl, rfl, by simp, fun k _ hn => heap_put_other w b k _ (fun he => hn (he ▸ hown)), fun _ h _ => h, rfl, .refl e⟩
  refine ⟨h.write id _ m hm hfr (fun j m' k hj hm' hk => heap_put_other w b k _ (fun he => hj (h.sim.inj j id m' m b hm' hm (he ▸ hk) (.inl hb)))) ?_, hfr⟩
  refine ⟨(h.sim.obj id _ m ho hm).only, hgood, b, es', clock', hb, heap_put w b _ hblt, hsz, hmx, fun i k x hx => ?_⟩
  obtain ⟨en, g1, g2, g3⟩ := hel i k x hx
  exact ⟨en, g1, g2, g3.fr hfr⟩

theorem Conc.mapSet {st st' : St} {a : Act} {w : World} {e : Env} (h : Conc st a w e) {t kt et : TypeId} (ht : P.underlying t = some (.map kt et)) {tk : TI} (hk : TIOk P kt tk) {m k x : AV} {vm vk vx : Value} (hm : Rd w e m vm) (hkk : Rd w e k vk) (hx : Rd w e x vx) (hr : st.mapSet tk m k x = some st') :
    ∃ w', (Instr.mapUpdate t vm vk vx).run P w = .ok () w' ∧ Conc st' a w' e ∧ Fr w e w' e := by
  unfold St.mapSet at hr
  split at hr
  · rename_i id kv hkv
    split at hr
    · rename_i sh ents sh' ho hsh hz
      split at hr
      · rename_i hc
        obtain ⟨hss, hf, hd, hcap⟩ := hc
        cases hr
        obtain ⟨mm, b, hm1, hm2, rfl⟩ := map_inv hm fun m hm => (h.sim.obj id _ m ho hm).ngone
        obtain rfl := keyV_rd hkv hkk
        have hK := (keySh_ok hk hz hsh).same hss
        have hMk := h.sim.obj id _ mm ho hm1
        obtain ⟨b', es, clock, h1, h2, h3, h4, h5, h6, h7⟩ := mapFind hMk hK hf
        rw [hm2] at h1; cases h1
        have hxd := hx.toData hd
        have hcap' := (capOk_iff.1 hcap).2
        obtain ⟨K, hKk⟩ := hK
        obtain ⟨l, hl⟩ := hKk vk hf
        rcases h7 with ⟨g1, g2⟩ | ⟨j, en, v, g1, g2, g3, g4, g5⟩
        · obtain ⟨_, e2, _⟩ := getM_none hf hMk.good.1 g2
          rw [e2 x]
          obtain ⟨c1, f1⟩ := h.mapWrite (es' := es.push ⟨vk, vx, clock⟩) (clock' := clock + 1) ho hm1 hm2 h2 (ents' := ents ++ [(vk, x)]) ⟨fun y hy => by
              rcases List.mem_append.1 hy with hy | hy
              · exact hMk.good.1 y hy
              · simp at hy; subst hy; exact hf, by
              rw [List.map_append, List.nodup_append]
              exact ⟨hMk.good.2, by simp, fun a ha b hb => by
                simp at hb; subst hb
                obtain ⟨y, hy, rfl⟩ := List.mem_map.1 ha
                exact g2 y hy⟩⟩ (by simp [h3]) (by simp; unfold maxLen; omega) (fun i k y hy => by
              rw [List.getElem?_append] at hy
              split at hy
              · rename_i hi
                obtain ⟨en, q1, q2, q3⟩ := h5 i k y hy
                exact ⟨en, by rw [Array.getElem?_push, if_neg (by omega)]; exact q1, q2, q3⟩
              · rename_i hi
                have hlt := (List.getElem?_eq_some_iff.1 hy).1
                simp at hlt
                have : i - ents.length = 0 := by omega
                rw [this] at hy
                simp at hy
                obtain ⟨rfl, rfl⟩ := hy
                exact ⟨⟨vk, vx, clock⟩, by rw [Array.getElem?_push, if_pos (by omega)], rfl, hxd⟩)
          refine ⟨_, ?_, c1, f1⟩
          simp only [Instr.mapUpdate, Sem.run_bind, run_underlying ht, Result.andThen_ok, MapKept.run_getObj_map h2, h6, g1, MapKept.run_setObj_map _ h2]
        · obtain ⟨_, e2, _⟩ := getM_some hf hMk.good.1 hMk.good.2 g4
          rw [e2 x]
          have hjlt : j < ents.length := (List.getElem?_eq_some_iff.1 g4).1
          obtain ⟨c1, f1⟩ := h.mapWrite (es' := es.modify j fun en => { en with key := vk, val := vx }) (clock' := clock) ho hm1 hm2 h2 (ents' := ents.set j (vk, x)) ⟨fun y hy => by
              rcases List.mem_or_eq_of_mem_set hy with hy | rfl
              · exact hMk.good.1 y hy
              · exact hf, by
              rw [List.map_set]
              have : ((ents.map (·.1)).set j vk) = ents.map (·.1) := by
                refine List.ext_getElem? fun i => ?_
                rw [List.getElem?_set]
                split
                · rename_i hji; subst hji
                  simp only [List.length_map, hjlt, if_true, List.getElem?_map, g4, Option.map_some]
                · rfl
              rw [this]; exact hMk.good.2⟩ (by simp [h3]) (by simpa using h4) (fun i k y hy => by
              rw [List.getElem?_set] at hy
              by_cases hji : j = i
              · subst hji
                rw [if_pos rfl, if_pos hjlt] at hy
                simp only [Option.some.injEq, Prod.mk.injEq] at hy
                obtain ⟨rfl, rfl⟩ := hy
                refine ⟨{ en with key := vk, val := vx }, ?_, rfl, hxd⟩
                rw [Array.getElem?_modify, if_pos rfl, g2]; rfl
              · rw [if_neg hji] at hy
                obtain ⟨en', q1, q2, q3⟩ := h5 i k y hy
                exact ⟨en', by rw [Array.getElem?_modify, if_neg hji]; exact q1, q2, q3⟩)
          refine ⟨_, ?_, c1, f1⟩
          have hst := K.stays w hl
          simp only [Instr.mapUpdate, Sem.run_bind, run_underlying ht, Result.andThen_ok, MapKept.run_getObj_map h2, h6, g1, g2, Option.map_some, Option.getD_some, g3, hst, MapKept.run_setObj_map _ h2]
      · cases hr
    · cases hr
  · cases hr

/-- delete(m, k) -/
def St.mapDel (st : St) (tk : TI) (m k : AV) : Option St :=
  match m, keyV k with
  | .map id, some kv => match look id st.objs, keySh tk, keyZ tk with
    | some (.mp sh ents), some sh', true => if sameSh sh' sh = true ∧ fitsKey sh kv = true then some { st with objs := upd id (.mp sh (delM kv ents)) st.objs } else none
    | _, _, _ => none
  | _, _ => none
theorem Conc.mapDel {st st' : St} {a : Act} {w : World} {e : Env} (h : Conc st a w e) {t kt et t2 rt : TypeId} (ht : P.underlying t = some (.map kt et)) {tk : TI} (hk : TIOk P kt tk) {m k : AV} {vm vk : Value} (hm : Rd w e m vm) (hkk : Rd w e k vk) (hr : st.mapDel tk m k = some st') :
    ∃ w', (Builtin.delete_ #[t, t2] rt #[vm, vk]).run P w = .ok (.tuple #[]) w' ∧ Conc st' a w' e ∧ Fr w e w' e := by
  unfold St.mapDel at hr
  split at hr
  · rename_i id kv hkv
    split at hr
    · rename_i sh ents sh' ho hsh hz
      split at hr
      · rename_i hc
        obtain ⟨hss, hf⟩ := hc
        cases hr
        obtain ⟨mm, b, hm1, hm2, rfl⟩ := map_inv hm fun m hm => (h.sim.obj id _ m ho hm).ngone
        obtain rfl := keyV_rd hkv hkk
        have hK := (keySh_ok hk hz hsh).same hss
        have hMk := h.sim.obj id _ mm ho hm1
        obtain ⟨b', es, clock, h1, h2, h3, h4, h5, h6, h7⟩ := mapFind hMk hK hf
        rw [hm2] at h1; cases h1
        rcases h7 with ⟨g1, g2⟩ | ⟨j, en, v, g1, g2, g3, g4, g5⟩
        · obtain ⟨_, _, e3⟩ := getM_none hf hMk.good.1 g2
          rw [e3]
          obtain ⟨c1, f1⟩ := h.mapWrite (es' := es) (clock' := clock) ho hm1 hm2 h2 (ents' := ents) hMk.good h3 h4 h5
          refine ⟨_, ?_, c1, f1⟩
          simp [Builtin.delete_, run_underlying ht, MapKept.run_getObj_map h2, h6, g1, MapKept.run_setObj_map _ h2]
        · obtain ⟨_, _, e3⟩ := getM_some hf hMk.good.1 hMk.good.2 g4
          rw [e3]
          have hjlt : j < ents.length := (List.getElem?_eq_some_iff.1 g4).1
          obtain ⟨c1, f1⟩ := h.mapWrite (es' := es.eraseIdxIfInBounds j) (clock' := clock) ho hm1 hm2 h2 (ents' := ents.eraseIdx j) ⟨fun y hy => hMk.good.1 y (List.mem_of_mem_eraseIdx hy), by
              exact hMk.good.2.sublist ((List.eraseIdx_sublist _ _).map _)⟩ (by
              simp only [Array.eraseIdxIfInBounds]
              rw [dif_pos (by omega), Array.size_eraseIdx, List.length_eraseIdx, if_pos hjlt, h3]) (by
              simp only [Array.eraseIdxIfInBounds]
              rw [dif_pos (by omega), Array.size_eraseIdx]; omega) (fun i k y hy => by
              simp only [Array.eraseIdxIfInBounds]
              rw [dif_pos (by omega)]
              rw [List.getElem?_eraseIdx] at hy
              rw [Array.getElem?_eraseIdx]
              split at hy
              · rename_i hlt; rw [if_pos hlt]; exact h5 i k y hy
              · rename_i hge; rw [if_neg hge]; exact h5 (i + 1) k y hy)
          refine ⟨_, ?_, c1, f1⟩
          simp [Builtin.delete_, run_underlying ht, MapKept.run_getObj_map h2, h6, g1, MapKept.run_setObj_map _ h2]
      · cases hr
    · cases hr
  · cases hr
#print axioms Conc.mapDel
end
end Go.Sim
