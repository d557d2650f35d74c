/- What the operations do on abstract values: make, store, append. -/
import Derived.Test.YtggbbldoopfejaaSf
namespace Go.Sim
open Go.RowKit
section
variable {P : Program}

/-! ### make -/
def St.makeSlice (st : St) (te : TI) (el : TypeId) (id : Nat) (l c : AV) : Option (AV × St) :=
  match l, c with
  | .val (.int _ n), .val (.int _ k) =>
    if 0 ≤ n ∧ n ≤ k ∧ k ≤ 16777216 ∧ te.bytes * 16777216 ≤ 281474976710656 ∧ unp id then some (.own id 0 n.toNat, st.renew id (.row true el te.size (List.replicate n.toNat (zeroA te.zero)))) else none
  | _, _ => none

theorem madeCells_get (z : Array Value) (sz : Nat) (hz : z.size = sz) (cap i j : Nat) (hi : i < cap) (hj : j < sz) : (madeCells z (cap * sz))[i * sz + j]? = z[j]? := by
  have hlt : i * sz + j < cap * sz := by
    have : (i + 1) * sz ≤ cap * sz := Nat.mul_le_mul_right _ hi
    rw [Nat.add_mul, Nat.one_mul] at this; omega
  simp only [madeCells, Array.getElem?_map]
  rw [Array.getElem?_range, if_pos hlt]
  simp only [Option.map_some]
  have hm : (i * sz + j) % z.size = j := by
    rw [hz, Nat.add_comm, Nat.add_mul_mod_self_right, Nat.mod_eq_of_lt hj]
  rw [hm, getElem!_pos z j (by omega), Array.getElem?_eq_getElem (by omega)]

theorem Conc.makeSlice {st st' : St} {a : Act} {w : World} {e : Env} (h : Conc st a w e) {t el : TypeId} {ti te : TI} (hti : TIOk P t ti) (hd : ti.desc = .slice el) (hte : TIOk P el te) {id : Nat} {l c r : AV} {vl vc : Value}
    (hl : Rd w e l vl) (hc : Rd w e c vc) (hr : st.makeSlice te el id l c = some (r, st')) :
    ∃ v w' e', (Instr.makeSlice t vl vc).run P w = .ok v w' ∧ Conc st' a w' e' ∧ Fr w e w' e' ∧ Rd w' e' r v := by
  unfold St.makeSlice at hr
  split at hr
  · rename_i kl n kc k
    split at hr
    · rename_i hb
      obtain ⟨h0, h1, h2, h3, hu⟩ := hb
      cases hr
      obtain rfl := hl.val_inv
      obtain rfl := hc.val_inv
      obtain ⟨ki, hki, hks, hkb, hkz⟩ := hte.parts
      have hbytes : (ki.bytes : Int) * k ≤ 281474976710656 := by
        rw [hkb]
        have : (te.bytes : Int) * k ≤ (te.bytes : Int) * 16777216 := Int.mul_le_mul_of_nonneg_left h2 (by omega)
        omega
      have hrun := run_make (P := P) w t el ki te.zero (by rw [hti.und, hd]) hki hkz kl kc n k h0 h1 hbytes (by omega)
      rw [hks] at hrun
      have hzs := hte.zsz
      obtain ⟨q1, q2⟩ := h.alloc id k.toNat hu true el te.size (List.replicate n.toNat (zeroA te.zero)) (madeCells te.zero.cells (k.toNat * te.size)) (size_madeCells _ _) (by simp; omega) (by unfold maxLen; omega) (fun x hx => by
          rw [List.eq_of_mem_replicate hx, zeroA_cells]; simp [zeroCellsA, hzs]) (fun i x hx j y hy => by
          have hi : i < n.toNat := by have := (List.getElem?_eq_some_iff.1 hx).1; simpa using this
          have hx' := List.eq_of_mem_replicate (List.mem_of_getElem? hx)
          subst hx'
          rw [zeroA_cells] at hy
          have hj : j < te.size := by have := (List.getElem?_eq_some_iff.1 hy).1; simpa [zeroCellsA, hzs] using this
          have hjz : j < te.zero.cells.size := by rw [hzs]; exact hj
          refine ⟨te.zero.cells[j], by rw [madeCells_get _ te.size hzs _ i j (by omega) hj]; exact Array.getElem?_eq_getElem hjz, ?_, ?_⟩
          · have := hte.zone
            rw [Array.all_eq_true_iff_forall_mem] at this
            exact this _ (Array.getElem_mem _)
          · simp only [CellRd, if_true]
            simp only [zeroCellsA, List.getElem?_map, Array.getElem?_toList, Array.getElem?_eq_getElem hjz, Option.map_some, Option.some.injEq] at hy
            subst hy; exact .val _)
      refine ⟨_, _, _, hrun, q1, q2, ?_⟩
      have := Rd.own (w := w.alloc (.cells (madeCells te.zero.cells (k.toNat * te.size)) el)) (e := e.set id (mt (some w.heap.size) (k.toNat) (te.size))) id 0 n.toNat (mt (some w.heap.size) (k.toNat) (te.size)) w.heap.size (by simp [Env.set]) rfl (by simp; omega)
      simpa using this
    · cases hr
  · cases hr

/-! ### a store -/
def AV.setCells (y : AV) (off : Nat) (xs : List AV) : Option AV :=
  match y with
  | .agg l => if off + xs.length ≤ l.length then some (.agg (setSeg l off xs)) else none
  | _ => match off, xs with
    | 0, [.agg _] => none
    | 0, [x] => some x
    | _, _ => none

theorem AV.setCells_cells {y : AV} {off : Nat} {xs : List AV} {z : AV} (h : y.setCells off xs = some z) : off + xs.length ≤ y.cells.length ∧ z.cells = setSeg y.cells off xs := by
  unfold AV.setCells at h
  split at h
  · split at h
    · rename_i hle; cases h; exact ⟨hle, rfl⟩
    · cases h
  · rename_i hy
    have hc : y.cells = [y] := by cases y <;> first | rfl | (exfalso; exact hy _ rfl)
    split at h
    · cases h
    · rename_i x hx
      cases h
      have hx' : z.cells = [z] := by cases z <;> first | rfl | (exfalso; exact hx _ rfl)
      rw [hc]; exact ⟨by simp, by simp [setSeg, hx']⟩
    · cases h

def St.storeAt (st : St) (sz : Nat) (p x : AV) : Option St :=
  match p with
  | .ptr id0 i0 off0 => match look id0 st.objs with
    | some (.row d _ _ _) => match (if d then st.toDataE (fun z => z) x else some (x, st, fun z => z)) with
      | some (x', st1, g) => match g (.ptr id0 i0 off0) with
        | .ptr id i off => match look id st1.objs with
          | some (.row d' ty s els) => if d' = d ∧ x'.fit ∧ x'.cells.length = sz then (match els[i]? with
              | some y => (match y.setCells off x'.cells with
                | some y' => some { st1 with objs := upd id (.row d ty s (els.set i y')) st1.objs }
                | none => none)
              | none => none) else none
          | _ => none
        | _ => none
      | none => none
    | _ => none
  | _ => none

theorem nlt {i i' sz j j' : Nat} (hj : j < sz) (hj' : j' < sz) (h : i * sz + j = i' * sz + j') : i = i' ∧ j = j' := by
  rcases Nat.lt_trichotomy i i' with hi | hi | hi
  · have : (i + 1) * sz ≤ i' * sz := Nat.mul_le_mul_right _ hi
    rw [Nat.add_mul, Nat.one_mul] at this; omega
  · subst hi; exact ⟨rfl, by omega⟩
  · have : (i' + 1) * sz ≤ i * sz := Nat.mul_le_mul_right _ hi
    rw [Nat.add_mul, Nat.one_mul] at this; omega

theorem Conc.storeRow {st : St} {a : Act} {w : World} {e : Env} (h : Conc st a w e) {id i off : Nat} {d : Bool} {ty : TypeId} {s : Nat} {els : List AV} {y y' : AV} {xs : List AV} {cells : Array Value} {m : Mta} {b : Nat}
    (ho : look id st.objs = some (.row d ty s els)) (hm : e.get id = some m) (hb : m.blk = some b) (hy : els[i]? = some y) (hy' : y.setCells off xs = some y')
    (hx1 : cells.size = xs.length) (hx2 : ∀ (k : Nat) (u : Value), cells[k]? = some u → u.oneCell' = true) (hx3 : ∀ (k : Nat) (z : AV) (u : Value), xs[k]? = some z → cells[k]? = some u → CellRd d w e z u) :
    ∃ w', (storeCells ⟨b, i * m.sz + off, none⟩ cells.toList).run P w = .ok () w' ∧ Conc { st with objs := upd id (.row d ty s (els.set i y')) st.objs } a w' e ∧ Fr w e w' e := by
  have hk := h.sim.obj id _ m ho hm
  have hkb := hk.blk
  simp only [hb] at hkb
  obtain ⟨cur, h1, h2, h3⟩ := hkb
  have hms : m.sz = s := hk.hsz
  obtain ⟨hle, hcells⟩ := AV.setCells_cells hy'
  have hys : y.cells.length = s := hk.cells y (List.mem_of_getElem? hy)
  have hilt : i < els.length := (List.getElem?_eq_some_iff.1 hy).1
  have hcap := hk.len
  have hfit : i * m.sz + off + 0 + cells.toList.length ≤ cur.size := by
    rw [h2, hms]
    have : (i + 1) * s ≤ m.cap * s := Nat.mul_le_mul_right _ (by omega)
    rw [Nat.add_mul, Nat.one_mul] at this
    simp only [Array.length_toList, hx1]; omega
  have hrun := run_storeCells_at P b (i * m.sz + off) ty cells.toList 0 cur w h1 (by omega) (fun u hu => by
    obtain ⟨k, hk⟩ := List.mem_iff_getElem?.1 hu
    exact hx2 k u (by simpa using hk))
  simp only [Nat.add_zero] at hrun
  have hfr : Fr w e (w.setRow b (cur.toList.take (i * m.sz + off) ++ cells.toList ++ cur.toList.drop (i * m.sz + off + cells.toList.length)).toArray) e :=
    ⟨rfl, rfl, rfl, by simp, fun b' hb' hn => setRow_other w b b' _ (fun he => hn (by subst he; exact ⟨id, m, hm, .inl hb⟩)), fun _ ho _ => ho, rfl, .refl e⟩
  refine ⟨_, hrun, h.write id _ m hm hfr (fun j m' b' hj hm' hb' => setRow_other w b b' _ (fun he => by subst he; exact hj (h.sim.inj j id m' m _ hm' hm hb' (.inl hb)))) ?_, hfr⟩
  refine ⟨hk.hsz, by simpa using hk.len, hk.cap, fun z hz => ?_, hk.only, ?_⟩
  · rcases List.mem_or_eq_of_mem_set hz with hz | rfl
    · exact hk.cells z hz
    · rw [hcells, setSeg_length _ _ _ hle, hys]
  simp only [hb]
  refine ⟨_, setRow_heap w b cur _ ty (0, 0) h1, ?_, fun i' x hx j z hz => ?_⟩
  · simp only [List.size_toArray, List.length_append, List.length_take, List.length_drop, Array.length_toList]
    simp only [Array.length_toList] at hfit
    rw [h2] at hfit ⊢; omega
  -- what stands at place p of the new row
  have hnew : ∀ p, (cur.toList.take (i * m.sz + off) ++ cells.toList ++ cur.toList.drop (i * m.sz + off + cells.toList.length)).toArray[p]? =
      if i * m.sz + off ≤ p ∧ p < i * m.sz + off + xs.length then cells[p - (i * m.sz + off)]? else cur[p]? := by
    intro p
    simp only [List.getElem?_toArray]
    have hl1 : (cur.toList.take (i * m.sz + off)).length = i * m.sz + off := by
      simp only [Array.length_toList] at hfit
      rw [List.length_take, Array.length_toList]; omega
    rw [List.append_assoc]
    by_cases hp1 : p < i * m.sz + off
    · rw [List.getElem?_append_left (by rw [hl1]; exact hp1), List.getElem?_take, if_pos hp1, if_neg (by omega)]; simp
    · rw [List.getElem?_append_right (by rw [hl1]; omega), hl1]
      by_cases hp2 : p < i * m.sz + off + xs.length
      · rw [List.getElem?_append_left (by simp only [Array.length_toList, hx1]; omega), if_pos (by omega)]; simp
      · rw [List.getElem?_append_right (by simp only [Array.length_toList, hx1]; omega), if_neg (by omega), List.getElem?_drop]
        simp only [Array.length_toList, hx1, Array.getElem?_toList]
        congr 1; omega
  rw [hnew]
  have hjs : j < s := by
    have hjl := (List.getElem?_eq_some_iff.1 hz).1
    rcases List.mem_or_eq_of_mem_set (List.mem_of_getElem? hx) with hm' | rfl
    · rw [hk.cells x hm'] at hjl; exact hjl
    · rw [hcells, setSeg_length _ _ _ hle, hys] at hjl; exact hjl
  by_cases hi : i' = i
  · subst hi
    rw [List.getElem?_set, if_pos rfl, if_pos hilt] at hx
    cases hx
    rw [hcells, setSeg_get _ _ _ hle] at hz
    by_cases hin : off ≤ j ∧ j < off + xs.length
    · rw [if_pos hin] at hz
      rw [if_pos (by rw [hms]; omega)]
      have hjc : j - off < cells.size := by rw [hx1]; omega
      rw [show i' * s + j - (i' * m.sz + off) = j - off from by rw [hms]; omega, Array.getElem?_eq_getElem hjc]
      have hcr := hx3 (j - off) z _ hz (Array.getElem?_eq_getElem hjc)
      exact ⟨_, rfl, hx2 _ _ (Array.getElem?_eq_getElem hjc), by
        cases d with
        | true => simp only [CellRd, if_true] at hcr ⊢; exact hcr.fr hfr
        | false => simp only [CellRd, Bool.false_eq_true, if_false] at hcr ⊢; exact hcr.fr hfr (fun _ _ => rfl)⟩
    · rw [if_neg hin] at hz
      rw [if_neg (by rw [hms]; omega)]
      obtain ⟨v, g1, g2, g3⟩ := h3 i' y hy j z hz
      exact ⟨v, g1, g2, by
        cases d with
        | true => simp only [CellRd, if_true] at g3 ⊢; exact g3.fr hfr
        | false => simp only [CellRd, Bool.false_eq_true, if_false] at g3 ⊢; exact g3.fr hfr (fun _ _ => rfl)⟩
  · rw [List.getElem?_set, if_neg (Ne.symm hi)] at hx
    have hno : ¬ (i * m.sz + off ≤ i' * s + j ∧ i' * s + j < i * m.sz + off + xs.length) := by
      rintro ⟨a1, a2⟩
      rw [hms] at a1 a2
      have := nlt (i := i') (i' := i) (j := j) (j' := i' * s + j - i * s) hjs (by omega) (by omega)
      exact hi this.1
    rw [if_neg hno]
    obtain ⟨v, g1, g2, g3⟩ := h3 i' x hx j z hz
    exact ⟨v, g1, g2, by
      cases d with
      | true => simp only [CellRd, if_true] at g3 ⊢; exact g3.fr hfr
      | false => simp only [CellRd, Bool.false_eq_true, if_false] at g3 ⊢; exact g3.fr hfr (fun _ _ => rfl)⟩
theorem Conc.storeAt {st st' : St} {a : Act} {w : World} {e : Env} (h : Conc st a w e) {t : TypeId} {ti : TI} (hti : TIOk P t ti) {p x : AV} {vp vx : Value} (hp : Rd w e p vp) (hx : Rd w e x vx) (hr : st.storeAt ti.size p x = some st') :
    ∃ w' e', (Instr.storeAt t vp vx).run P w = .ok () w' ∧ Conc st' a w' e' ∧ Fr w e w' e' := by
  unfold St.storeAt at hr
  split at hr
  · rename_i id0 i0 off0
    split at hr
    · rename_i d ty0 s0 els0 ho0
      split at hr
      · rename_i x' st1 g hda
        -- the state behind the making of data
        have hstep : ∃ e1, Conc st1 a w e1 ∧ Fr w e w e1 ∧ Turns w e w e1 g ∧ (if d then (x'.isData = true ∧ RdD w e1.q x' vx) else Rd w e1 x' vx) := by
          cases d with
          | true =>
            simp only [if_true] at hda ⊢
            obtain ⟨e1, c1, f1, t1, d1, k1⟩ := toDataE_step h (Turns.refl w e) hda
            exact ⟨e1, c1, f1, t1, d1, k1 vx hx⟩
          | false =>
            simp only [Bool.false_eq_true, if_false, Option.some.injEq, Prod.mk.injEq] at hda ⊢
            obtain ⟨rfl, rfl, rfl⟩ := hda
            exact ⟨e, h, Fr.refl w e, Turns.refl w e, hx⟩
        obtain ⟨e1, c1, f1, t1, k1⟩ := hstep
        split at hr
        · rename_i id i off hg
          split at hr
          · rename_i d' ty s els ho
            split at hr
            · rename_i hc
              obtain ⟨rfl, hfit, hlen⟩ := hc
              split at hr
              · rename_i y hy
                split at hr
                · rename_i y' hy'
                  cases hr
                  have hp1 := t1 _ _ hp
                  rw [hg] at hp1
                  obtain ⟨m, b, hm, hb, rfl⟩ := ptr_inv hp1 fun m hm => (c1.sim.obj id _ m ho hm).ngone
                  have hxr : Rd w e1 x' vx := by
                    cases d' with
                    | true => simp only [if_true] at k1; exact .data k1.2
                    | false => simpa using k1
                  obtain ⟨⟨q1, q2⟩, q3⟩ := hxr.cellsRd hfit
                  obtain ⟨w', g1, g2, g3⟩ := c1.storeRow (P := P) (cells := vx.cells) ho hm hb hy hy' q1 q3 (fun k z u hz hu => by
                    cases d' with
                    | false => simp only [CellRd, Bool.false_eq_true, if_false]; exact q2 k z u hz hu
                    | true =>
                      simp only [CellRd, if_true]
                      simp only [if_true] at k1
                      refine (q2 k z u hz hu).toData ?_
                      have hyd := k1.1
                      cases x' <;> simp only [AV.cells, List.getElem?_singleton] at hz <;> first
                        | (simp only [AV.isData] at hyd; exact AV.isDataL_mem hyd (List.mem_of_getElem? hz))
                        | (split at hz <;> cases hz; exact hyd))
                  refine ⟨w', e1, ?_, g2, f1.trans g3⟩
                  simp only [Instr.storeAt, Instr.sureAddr, Sem.run_bind, Sem.run_pure, Result.andThen_ok, storeVar, run_size hti]
                  rw [if_neg (by rw [q1, hlen]; simp)]
                  exact g1
                · cases hr
              · cases hr
            · cases hr
          · cases hr
        · cases hr
      · cases hr
    · cases hr
  · cases hr

/-! ### append -/
/-- the elements that are appended: of a slice's type -/
def St.srcA (st : St) (sz : Nat) (x : AV) : Option (List AV) :=
  match x with
  | .imm l => if l.all (fun y => y.cells.length == sz) then some l else none
  | .own id off len => match look id st.objs with
    | some (.row true _ s els) => if s = sz ∧ off + len ≤ els.length then some ((els.drop off).take len) else none
    | _ => none
  | .val (.slice none 0 0) => some []
  | _ => none
/-- what append gives, in memory -/
structure Appended (w w' : World) (ty : TypeId) (sz n m : Nat) (own : Option Nat) (olds news : List Value) (v' : Value) (g cap' : Nat) (cur' : Array Value) : Prop where
  val : v' = .slice (some ⟨g, 0, none⟩) (n + m) cap'
  blk : w'.heap[g]? = some (.cells cur' ty (0, 0))
  size : cur'.size = cap' * sz
  fits : n + m ≤ cap'
  cap : cap' ≤ maxLen
  at_ : some g = own ∨ w.heap.size ≤ g
  con : ∀ p, p < (n + m) * sz → cur'[p]? = (olds ++ news)[p]?
  os : w'.os = w.os
  tape : w'.tape = w.tape
  output : w'.output = w.output
  grow : w.heap.size ≤ w'.heap.size
  keep : ∀ k, k < w.heap.size → some k ≠ own → w'.heap[k]? = w.heap[k]?

theorem run_append_row {w : World} {t ty : TypeId} {ti te : TI} (hti : TIOk P t ti) (hd : ti.desc = .slice ty) (hte : TIOk P ty te) (rt : TypeId) {b n cap m c : Nat} {cur : Array Value} {ad : Addr} {olds news : List Value}
    (hb : w.heap[b]? = some (.cells cur ty (0, 0))) (hcs : cur.size = cap * te.size) (hnc : n ≤ cap) (hcm : cap ≤ maxLen) (ho : cur.toList.take (n * te.size) = olds)
    (hl : news.length = m * te.size) (hnews : ∀ (j : Nat) (u : Value), news[j]? = some u → w.cell? (ad.add j) = some u) (h1 : ∀ u ∈ news, u.oneCell' = true) (hbytes : (n + m) * te.bytes ≤ 140737488355328) (h63 : n + m ≤ maxLen) :
    ∃ v' w' g cap' cur', (Builtin.append_ #[t, t] rt #[.slice (some ⟨b, 0, none⟩) n cap, .slice (some ad) m c]).run P w = .ok v' w' ∧ Appended w w' ty te.size n m (some b) olds news v' g cap' cur' := by
  obtain ⟨k, hk, hks, hkb, hkz⟩ := hte.parts
  have hu : P.underlying t = some (.slice ty) := by rw [hti.und, hd]
  have holen : olds.length = n * te.size := by
    rw [← ho, List.length_take, Array.length_toList, hcs, Nat.min_eq_left]; exact Nat.mul_le_mul_right _ hnc
  by_cases hroom : n + m ≤ cap
  · have hfit : n * te.size + news.length ≤ cur.size := by rw [hl, hcs, ← Nat.add_mul]; exact Nat.mul_le_mul_right _ hroom
    have hr := run_append_room (P := P) w t rt ty k hu hk b n cap cur hb ad m c news (by rw [hks]; exact hl) hnews h1 hroom (by rw [hks]; exact hfit)
    rw [hks] at hr
    refine ⟨_, _, b, cap, _, hr, rfl, setRow_heap w b cur _ ty _ hb, ?_, hroom, hcm, .inl rfl, fun p hp => ?_, rfl, rfl, rfl, by simp, fun q _ hq => setRow_other w b q _ (fun e => hq (by rw [e]))⟩
    · simp only [List.size_toArray, List.length_append, List.length_take, List.length_drop, Array.length_toList]; omega
    · rw [ho, List.getElem?_toArray, List.getElem?_append_left]
      rw [List.length_append, holen, hl, ← Nat.add_mul]; exact hp
  · have holds : ∀ (j : Nat) (u : Value), olds[j]? = some u → w.cell? ((⟨b, 0, none⟩ : Addr).add j) = some u := by
      intro j u hj
      rw [addr_add, Nat.zero_add, cell_of_row w b j cur ty (0, 0) hb]
      rw [← ho, List.getElem?_take] at hj
      split at hj
      · simpa using hj
      · cases hj
    have hsmall : n + m ≤ 9223372036854775807 := by simp only [maxLen] at h63; omega
    have hr := run_append_grow (P := P) w t rt ty k te.zero hu hk hkz ⟨b, 0, none⟩ n cap olds (by rw [hks]; exact holen) holds ad m c news (by rw [hks]; exact hl) hnews (by omega) (by omega) (growslice_fits (by omega) (by rw [hkb]; exact hbytes))
    have hge := grownCap_ge w (n + m) cap ty
    refine ⟨_, _, w.heap.size, _, _, hr, rfl, heap_alloc_new w.drew _, ?_, hge, grownCap_le_maxLen w (n + m) cap ty h63, .inr (Nat.le_refl _), fun p hp => ?_, rfl, rfl, rfl, by simp, fun q hq _ => heap_alloc_old w.drew _ q hq⟩
    · simp only [Array.size_append, List.size_toArray, size_zeroCells, hte.zsz, holen, hl, ← Nat.add_mul]
      congr 1; omega
    · have hlen : (olds ++ news).length = (n + m) * te.size := by rw [List.length_append, holen, hl, Nat.add_mul]
      rw [Array.getElem?_append_left (by simp only [Array.size_append, List.size_toArray]; rw [List.length_append] at hlen; omega), List.append_toArray, List.getElem?_toArray]

theorem run_append_none {w : World} {t ty : TypeId} {ti te : TI} (hti : TIOk P t ti) (hd : ti.desc = .slice ty) (hte : TIOk P ty te) (rt : TypeId) {m c : Nat} {a0 : Option Addr} {ad : Addr} {news : List Value} (h0 : 0 < m)
    (hl : news.length = m * te.size) (hnews : ∀ (j : Nat) (u : Value), news[j]? = some u → w.cell? (ad.add j) = some u) (hbytes : m * te.bytes ≤ 140737488355328) (h63 : m ≤ maxLen) :
    ∃ v' w' g cap' cur', (Builtin.append_ #[t, t] rt #[.slice a0 0 0, .slice (some ad) m c]).run P w = .ok v' w' ∧ Appended w w' ty te.size 0 m none [] news v' g cap' cur' := by
  obtain ⟨k, hk, hks, hkb, hkz⟩ := hte.parts
  have hu : P.underlying t = some (.slice ty) := by rw [hti.und, hd]
  have hsmall : m ≤ 9223372036854775807 := by simp only [maxLen] at h63; omega
  have hge := grownCap_ge w (0 + m) 0 ty
  have hmain : (Builtin.append_ #[t, t] rt #[.slice a0 0 0, .slice (some ad) m c]).run P w = .ok (.slice (some ⟨w.heap.size, 0, none⟩) (0 + m) (grownCap w (0 + m) 0 ty))
      (w.drew.alloc (.cells (news.toArray ++ Builtin.zeroCells te.zero.cells (grownCap w (0 + m) 0 ty - (0 + m))) ty)) := by
    cases a0 with
    | none =>
      have hr := run_append_nil (P := P) w t rt ty k te.zero hu hk hkz ad m c news (by rw [hks]; exact hl) hnews h0 (by omega) (by rw [hkb]; omega)
      simpa using hr
    | some a1 =>
      have hr := run_append_grow (P := P) w t rt ty k te.zero hu hk hkz a1 0 0 [] (by simp) (fun j u hj => by simp at hj) ad m c news (by rw [hks]; exact hl) hnews (by omega) (by omega) (growslice_fits (by omega) (by rw [hkb]; simpa using hbytes))
      simpa using hr
  refine ⟨_, _, w.heap.size, _, _, hmain, rfl, heap_alloc_new w.drew _, ?_, hge, grownCap_le_maxLen w (0 + m) 0 ty (by simpa using h63), .inr (Nat.le_refl _), fun p hp => ?_, rfl, rfl, rfl, by simp, fun q hq _ => heap_alloc_old w.drew _ q hq⟩
  · simp only [Array.size_append, List.size_toArray, size_zeroCells, hte.zsz, hl, ← Nat.add_mul]
    congr 1; omega
  · rw [Array.getElem?_append_left (by simp only [List.size_toArray]; rw [hl]; simpa using hp), List.getElem?_toArray]; simp

theorem run_append_zero {w : World} {t ty : TypeId} {ti te : TI} (hti : TIOk P t ti) (hd : ti.desc = .slice ty) (hte : TIOk P ty te) (rt : TypeId) {n cap c : Nat} {a0 a1 : Option Addr} (hn : n ≤ cap) :
    (Builtin.append_ #[t, t] rt #[.slice a0 n cap, .slice a1 0 c]).run P w = .ok (.slice a0 n cap) w := by
  have hu : P.underlying t = some (.slice ty) := by rw [hti.und, hd]
  have hf : (Builtin.firstCells te.size 0 (.slice a1 0 c)).run P w = .ok #[] w := by
    cases a1 <;> simp [Builtin.firstCells, loadCells, loadCellsFrom]
  obtain ⟨k, hk, hks, hkb, hkz⟩ := hte.parts
  cases a0 <;> simp [Builtin.append_, run_underlying hu, run_size hte, Builtin.lenOf, hn, hf, storeCells]

theorem divmod_lt {p n sz : Nat} (hz : 0 < sz) (hp : p < n * sz) : p / sz < n ∧ p % sz < sz ∧ p / sz * sz + p % sz = p :=
  ⟨(Nat.div_lt_iff_lt_mul hz).2 hp, Nat.mod_lt _ hz, by rw [Nat.mul_comm]; exact Nat.div_add_mod p sz⟩

/-- The cells of a list of elements, off a function. -/
theorem flat_news {w : World} {q : Nat → Prop} {l : List AV} {sz b off : Nat} (hz : 0 < sz) (hsz : ∀ x ∈ l, x.cells.length = sz)
    (hc : ∀ (i : Nat) (x : AV), l[i]? = some x → ∀ (j : Nat) (y : AV), x.cells[j]? = some y → ∃ v, w.cell? ⟨b, off + (i * sz + j), none⟩ = some v ∧ v.oneCell' = true ∧ RdD w q y v) :
    ∃ news : List Value, news.length = l.length * sz ∧ (∀ (j : Nat) (u : Value), news[j]? = some u → w.cell? ((⟨b, off, none⟩ : Addr).add j) = some u) ∧ (∀ u ∈ news, u.oneCell' = true) ∧
      ∀ (i : Nat) (x : AV), l[i]? = some x → ∀ (j : Nat) (y : AV), x.cells[j]? = some y → ∃ v, news[i * sz + j]? = some v ∧ v.oneCell' = true ∧ RdD w q y v := by
  let f : Nat → Value := fun p => (w.cell? ⟨b, off + p, none⟩).getD undef
  have key : ∀ p, p < l.length * sz → ∃ v, w.cell? ⟨b, off + p, none⟩ = some v ∧ v.oneCell' = true := by
    intro p hp
    obtain ⟨h1, h2, h3⟩ := divmod_lt hz hp
    have hx : l[p / sz]? = some l[p / sz] := List.getElem?_eq_getElem h1
    have hl := hsz l[p / sz] (List.getElem_mem _)
    have hy : l[p / sz].cells[p % sz]? = some (l[p / sz].cells[p % sz]'(by rw [hl]; exact h2)) := List.getElem?_eq_getElem _
    obtain ⟨v, g1, g2, _⟩ := hc _ _ hx _ _ hy
    rw [h3] at g1
    exact ⟨v, g1, g2⟩
  refine ⟨(List.range (l.length * sz)).map f, by simp, fun j u hj => ?_, fun u hu => ?_, fun i x hx j y hy => ?_⟩
  · rw [List.getElem?_map] at hj
    obtain ⟨p, hp, rfl⟩ := Option.map_eq_some_iff.1 hj
    have hlt : j < l.length * sz := by have := (List.getElem?_eq_some_iff.1 hp).1; simpa using this
    rw [List.getElem?_range hlt] at hp
    cases hp
    obtain ⟨v, g1, _⟩ := key j hlt
    rw [addr_add]; simp [f, g1]
  · obtain ⟨p, hp, rfl⟩ := List.mem_map.1 hu
    obtain ⟨v, g1, g2⟩ := key p (by simpa using hp)
    simpa [f, g1] using g2
  · have hi : i < l.length := (List.getElem?_eq_some_iff.1 hx).1
    have hj : j < sz := by rw [← hsz x (List.mem_of_getElem? hx)]; exact (List.getElem?_eq_some_iff.1 hy).1
    have hlt : i * sz + j < l.length * sz := by
      have : (i + 1) * sz ≤ l.length * sz := Nat.mul_le_mul_right _ hi
      rw [Nat.add_mul, Nat.one_mul] at this; omega
    obtain ⟨v, g1, g2, g3⟩ := hc i x hx j y hy
    exact ⟨v, by rw [List.getElem?_map, List.getElem?_range hlt]; simp [f, g1], g2, g3⟩

/-- what is known of the elements that are appended -/
structure Src (w : World) (e : Env) (sz : Nat) (l : List AV) (vx : Value) : Prop where
  cells : ∀ x ∈ l, x.cells.length = sz
  val : (l = [] ∧ ∃ a c, vx = .slice a 0 c) ∨ ∃ ad c, ∃ news : List Value, vx = .slice (some ad) l.length c ∧ news.length = l.length * sz ∧ (∀ (j : Nat) (u : Value), news[j]? = some u → w.cell? (ad.add j) = some u) ∧ (∀ u ∈ news, u.oneCell' = true) ∧
      ∀ (i : Nat) (x : AV), l[i]? = some x → ∀ (j : Nat) (y : AV), x.cells[j]? = some y → ∃ v, news[i * sz + j]? = some v ∧ v.oneCell' = true ∧ RdD w e.q y v

theorem Conc.src {st : St} {a : Act} {w : World} {e : Env} (h : Conc st a w e) {sz : Nat} (hz : 0 < sz) {x : AV} {vx : Value} {l : List AV} (hx : Rd w e x vx) (hr : st.srcA sz x = some l) : Src w e sz l vx := by
  unfold St.srcA at hr
  split at hr
  · split at hr
    · rename_i l0 hall
      cases hr
      simp only [List.all_eq_true, beq_iff_eq] at hall
      refine ⟨hall, ?_⟩
      cases hx with
      | data hx =>
        cases hx with
        | imm0 a cap => exact .inl ⟨rfl, a, cap, rfl⟩
        | imm _ b off cap sz' vals hne hz' hq hlen hcap hsz hc hrr =>
          obtain ⟨y0, ys, rfl⟩ := List.exists_cons_of_ne_nil hne
          have : sz' = sz := by rw [← hsz y0 (by simp), hall y0 (by simp)]
          subst this
          obtain ⟨news, n1, n2, n3, n4⟩ := flat_news (w := w) (q := e.q) (l := y0 :: ys) (b := b) (off := off) hz hall (fun i x hx j y hy => ⟨vals i j, by
            obtain ⟨c1, c2⟩ := hc i x hx j y hy
            exact ⟨by rw [← c1]; congr 2; omega, c2, hrr i x hx j y hy⟩⟩)
          exact .inr ⟨⟨b, off, none⟩, cap, news, rfl, n1, n2, n3, n4⟩
    · cases hr
  · rename_i id off len
    split at hr
    · rename_i ty s els ho
      split at hr
      · rename_i hc
        obtain ⟨rfl, hle⟩ := hc
        cases hr
        have hl : ((els.drop off).take len).length = len := by simp; omega
        have hmem : ∀ x ∈ (els.drop off).take len, x ∈ els := fun x hx => List.mem_of_mem_drop (List.mem_of_mem_take hx)
        cases hx with
        | data hx => cases hx
        | own0 _ m hm hb a0 =>
          refine ⟨fun x hx => ?_, .inl ⟨by simp, a0, 0, rfl⟩⟩
          simp at hx
        | ownX _ _ _ m hm hg => exact absurd hg (h.sim.obj id _ m ho hm).ngone
        | own _ _ _ m b hm hb hc =>
          have hk := h.sim.obj id _ m ho hm
          have hms : m.sz = s := hk.hsz
          refine ⟨fun x hx => hk.cells x (hmem x hx), ?_⟩
          have hkb := hk.blk
          simp only [hb] at hkb
          obtain ⟨cur, h1, h2, h3⟩ := hkb
          have hget : ∀ (k : Nat) (x : AV), ((els.drop off).take len)[k]? = some x → els[off + k]? = some x := by
            intro k x hx
            rw [List.getElem?_take] at hx
            split at hx
            · rwa [List.getElem?_drop] at hx
            · cases hx
          obtain ⟨news, n1, n2, n3, n4⟩ := flat_news (w := w) (q := e.q) (l := (els.drop off).take len) (b := b) (off := off * m.sz) hz (fun x hx => hk.cells x (hmem x hx)) (fun i x hx j y hy => by
            obtain ⟨v, g1, g2, g3⟩ := h3 (off + i) x (hget i x hx) j y hy
            refine ⟨v, ?_, g2, by simpa [CellRd] using g3⟩
            rw [cell_of_row w b _ cur ty (0, 0) h1, hms, ← g1]; congr 1; rw [Nat.add_mul]; omega)
          rw [hl] at n1
          exact .inr ⟨⟨b, off * m.sz, none⟩, m.cap - off, news, by rw [hl], by rw [hl]; exact n1, n2, n3, n4⟩
      · cases hr
    · cases hr
  · cases hr
    obtain rfl := hx.val_inv
    exact ⟨fun x hx => by simp at hx, .inl ⟨rfl, none, 0, rfl⟩⟩
  · cases hr

/-- a slice of so many elements of so many bytes may be grown -/
def capOk (n b : Nat) : Bool := decide (n * b ≤ 140737488355328) && decide (n ≤ 140737488355328)
theorem capOk_iff {n b : Nat} : capOk n b = true ↔ n * b ≤ 140737488355328 ∧ n ≤ 140737488355328 := by simp [capOk]
theorem capOk_of {n b : Nat} (h : n ≤ 100000000) (hb : b ≤ 1000000) : capOk n b = true := by
  rw [capOk_iff]
  have := Nat.mul_le_mul h hb
  omega
/-- append(s, x...) at the slot whose own object is nid: the object that s views goes on, or a new one. -/
def St.appendA (st : St) (te : TI) (ty : TypeId) (nid : Nat) (s x : AV) : Option (AV × St) :=
  if 0 < te.size then
  match st.srcA te.size x with
  | some l => match s with
    | .own id 0 len => match look id st.objs with
      | some (.row true ty' sz els) => if ty' = ty ∧ sz = te.size ∧ len = els.length ∧ capOk (els.length + l.length) te.bytes = true ∧ unp id then
          some (.own id 0 (els ++ l).length, st.renew id (.row true ty sz (els ++ l))) else none
      | _ => none
    | .val (.slice none 0 0) => if capOk l.length te.bytes = true ∧ unp nid then some (.own nid 0 l.length, st.renew nid (.row true ty te.size l)) else none
    | _ => none
  | none => none
  else none

/-- From what append gave in memory to the state behind it. -/
theorem Conc.appended {st : St} {a : Act} {w w' : World} {e : Env} (h : Conc st a w e) {id : Nat} (hu : unp id = true) {ty : TypeId} {sz : Nat} {els l : List AV} {own : Option Nat} {olds news : List Value} {v' : Value} {g cap' : Nat} {cur' : Array Value}
    (ha : Appended w w' ty sz els.length l.length own olds news v' g cap' cur') (hcells : ∀ x ∈ els ++ l, x.cells.length = sz)
    (hown : ∀ b, own = some b → ∃ m, e.get id = some m ∧ m.blk = some b) (holen : olds.length = els.length * sz)
    (hold : ∀ (i : Nat) (x : AV), els[i]? = some x → ∀ (j : Nat) (y : AV), x.cells[j]? = some y → ∃ v, olds[i * sz + j]? = some v ∧ v.oneCell' = true ∧ RdD w e.q y v)
    (hnew : ∀ (i : Nat) (x : AV), l[i]? = some x → ∀ (j : Nat) (y : AV), x.cells[j]? = some y → ∃ v, news[i * sz + j]? = some v ∧ v.oneCell' = true ∧ RdD w e.q y v) :
    ∃ e', Conc (st.renew id (.row true ty sz (els ++ l))) a w' e' ∧ Fr w e w' e' ∧ Rd w' e' (.own id 0 (els ++ l).length) v' := by
  let m : Mta := mt (some g) cap' sz
  have hg : ∀ b, some g = some b → (∃ m0, e.get id = some m0 ∧ m0.blk = some b) ∨ w.heap.size ≤ b := by
    intro b hb; cases hb
    rcases ha.at_ with h1 | h1
    · exact .inl (hown g h1.symm)
    · exact .inr h1
  have hkeep : ∀ k, k < w.heap.size → (∀ m0, e.get id = some m0 → m0.blk ≠ some k) → w'.heap[k]? = w.heap[k]? := by
    intro k hk hn
    refine ha.keep k hk fun hko => ?_
    obtain ⟨m0, h1, h2⟩ := hown k hko.symm
    exact hn m0 h1 h2
  have hfr : Fr w e w' (e.set id m) := by
    refine ⟨ha.os, ha.tape, ha.output, ha.grow, fun b hb hn => hkeep b hb (fun m0 h1 h2 => hn ⟨id, m0, h1, .inl h2⟩), fun b ho hb => ?_, rfl, Pinned.of fun j hj => by simp [Env.set, unp_ne hu hj]⟩
    obtain ⟨j, mj, hj, hm⟩ := ho
    simp only [Env.set] at hj
    split at hj
    · cases hj
      rcases hg b (Mta.has_mk.1 hm) with ⟨m0, h1, h2⟩ | h1
      · exact ⟨id, m0, h1, .inl h2⟩
      · omega
    · exact ⟨j, mj, hj, hm⟩
  refine ⟨e.set id m, h.renew id _ m hfr (fun b hb j m' hj hm' hb' => ?_) (fun j m' b hj hm' hb' => ?_) ?_ (fun b hb => ?_), hfr, ?_⟩
  · rcases hg b (Mta.has_mk.1 hb) with ⟨m0, h1, h2⟩ | h1
    · exact hj (h.sim.inj j id m' m0 b hm' h1 hb' (.inl h2))
    · have := h.sim.blk_lt hm' hb'; omega
  · exact hkeep b (h.sim.blk_lt hm' hb') (fun m0 h1 h2 => hj (h.sim.inj j id m' m0 b hm' h1 hb' (.inl h2)))
  · refine ⟨rfl, by rw [List.length_append]; exact ha.fits, ha.cap, hcells, fun _ h => h, cur', ha.blk, ha.size, fun i x hx j y hy => ?_⟩
    have hi : i < els.length + l.length := by have := (List.getElem?_eq_some_iff.1 hx).1; simpa using this
    have hj : j < sz := by rw [← hcells x (List.mem_of_getElem? hx)]; exact (List.getElem?_eq_some_iff.1 hy).1
    have hlt : i * sz + j < (els.length + l.length) * sz := by
      have : (i + 1) * sz ≤ (els.length + l.length) * sz := Nat.mul_le_mul_right _ hi
      rw [Nat.add_mul, Nat.one_mul] at this; omega
    rw [ha.con _ hlt]
    by_cases hlo : i < els.length
    · rw [List.getElem?_append_left hlo] at hx
      obtain ⟨v, g1, g2, g3⟩ := hold i x hx j y hy
      refine ⟨v, ?_, g2, by simp only [CellRd, if_true]; exact g3.fr hfr⟩
      rw [List.getElem?_append_left (List.getElem?_eq_some_iff.1 g1).1]; exact g1
    · rw [List.getElem?_append_right (by omega)] at hx
      obtain ⟨v, g1, g2, g3⟩ := hnew (i - els.length) x hx j y hy
      refine ⟨v, ?_, g2, by simp only [CellRd, if_true]; exact g3.fr hfr⟩
      have h1 : i * sz = els.length * sz + (i - els.length) * sz := by rw [← Nat.add_mul]; congr 1; omega
      rw [List.getElem?_append_right (by omega), ← g1]; congr 1; omega
  · rcases hg b (Mta.has_mk.1 hb) with ⟨m0, h1, h2⟩ | h1
    · exact h.sim.prok b ⟨id, m0, h1, .inl h2⟩
    · exact h.sim.new b h1
  · have hfit := ha.fits
    have := Rd.own (w := w') (e := e.set id m) id 0 (els ++ l).length m g (by simp [Env.set]) rfl (by simpa [m] using hfit)
    rw [ha.val]
    simpa [m, List.length_append] using this

theorem Fr.set_self {w : World} {e : Env} {id : Nat} {m : Mta} (h : e.get id = some m) : Fr w e w (e.set id m) := by
  refine ⟨rfl, rfl, rfl, Nat.le_refl _, fun _ _ _ => rfl, fun b ho _ => ?_, rfl, Pinned.of fun j _ => by simp only [Env.set]; split <;> simp_all⟩
  obtain ⟨j, mj, hj, hm⟩ := ho
  simp only [Env.set] at hj
  split at hj
  · cases hj; exact ⟨id, _, h, hm⟩
  · exact ⟨j, mj, hj, hm⟩

theorem Conc.appendA {st st' : St} {a : Act} {w : World} {e : Env} (h : Conc st a w e) {t ty : TypeId} {ti te : TI} (hti : TIOk P t ti) (hd : ti.desc = .slice ty) (hte : TIOk P ty te) (rt : TypeId) {nid : Nat} {s x r : AV} {vs vx : Value}
    (hs : Rd w e s vs) (hx : Rd w e x vx) (hr : st.appendA te ty nid s x = some (r, st')) : ∃ v w' e', (Builtin.append_ #[t, t] rt #[vs, vx]).run P w = .ok v w' ∧ Conc st' a w' e' ∧ Fr w e w' e' ∧ Rd w' e' r v := by
  unfold St.appendA at hr
  split at hr
  · rename_i hz
    split at hr
    · rename_i l hsrc
      have hS := h.src hz hx hsrc
      split at hr
      · rename_i id len
        split at hr
        · rename_i ty' sz els ho
          split at hr
          · rename_i hc
            obtain ⟨rfl, rfl, hlen, hb0, hu⟩ := hc
            obtain ⟨hb1, hb2⟩ := capOk_iff.1 hb0
            cases hr
            cases hs with
            | data hs => cases hs
            | own0 _ m hm hb a0 =>
              have hk := h.sim.obj id _ m ho hm
              have hcap0 : m.cap = 0 := by have := hk.blk; simpa [hb] using this
              have hels : els = [] := List.eq_nil_of_length_eq_zero (by have := hk.len; omega)
              subst hels
              have hno : ∀ b, ¬ m.has b := fun b hb' => by rcases hb' with hb' | hb' <;> first | (rw [hb] at hb'; cases hb') | exact hk.only b hb'
              rcases hS.val with ⟨rfl, a1, c, rfl⟩ | ⟨ad, c, news, rfl, n1, n2, n3, n4⟩
              · have := h.renew id (.row true ty' te.size []) m (Fr.set_self hm) (fun b hb' => absurd hb' (hno b)) (fun _ _ _ _ _ _ => rfl) ⟨hk.hsz, by simp, hk.cap, fun x hx => by simp at hx, hk.only, by simpa [hb] using hcap0⟩ (fun b hb' => absurd hb' (hno b))
                exact ⟨_, w, e.set id m, run_append_zero hti hd hte rt (Nat.le_refl _), this, Fr.set_self hm, Rd.own0 id m (by simp [Env.set]) hb a0⟩
              · by_cases hl0 : l = []
                · subst hl0
                  have := h.renew id (.row true ty' te.size []) m (Fr.set_self hm) (fun b hb' => absurd hb' (hno b)) (fun _ _ _ _ _ _ => rfl) ⟨hk.hsz, by simp, hk.cap, fun x hx => by simp at hx, hk.only, by simpa [hb] using hcap0⟩ (fun b hb' => absurd hb' (hno b))
                  exact ⟨_, w, e.set id m, run_append_zero hti hd hte rt (Nat.le_refl _), this, Fr.set_self hm, Rd.own0 id m (by simp [Env.set]) hb a0⟩
                · simp only [List.length_nil, Nat.zero_add] at hb1 hb2
                  obtain ⟨v', w', g, cap', cur', hrun, hap⟩ := run_append_none (P := P) (w := w) (c := c) (a0 := a0) hti hd hte rt (List.length_pos_iff.2 hl0) n1 n2 hb1 (by unfold maxLen; omega)
                  obtain ⟨e', q1, q2, q3⟩ := h.appended (id := id) hu (els := []) (l := l) hap (by simpa using hS.cells) (fun b hb' => by cases hb') (by simp) (fun i x hx => by simp at hx) n4
                  exact ⟨v', w', e', hrun, q1, q2, q3⟩
            | ownX _ _ _ m hm hg => exact absurd hg (h.sim.obj id _ m ho hm).ngone
            | own _ _ _ m b hm hb hc =>
              subst hlen
              have hk := h.sim.obj id _ m ho hm
              have hkb := hk.blk
              simp only [hb] at hkb
              obtain ⟨cur, h1, h2, h3⟩ := hkb
              have hms : m.sz = te.size := hk.hsz
              have hcap := hk.len
              have holen : (cur.toList.take (els.length * te.size)).length = els.length * te.size := by
                have hcl : cur.toList.length = m.cap * te.size := by rw [← h2]; exact Array.length_toList
                rw [List.length_take, hcl, Nat.min_eq_left]; exact Nat.mul_le_mul_right _ hcap
              have hold : ∀ (i : Nat) (x : AV), els[i]? = some x → ∀ (j : Nat) (y : AV), x.cells[j]? = some y → ∃ v, (cur.toList.take (els.length * te.size))[i * te.size + j]? = some v ∧ v.oneCell' = true ∧ RdD w e.q y v := by
                intro i x hx j y hy
                obtain ⟨v, g1, g2, g3⟩ := h3 i x hx j y hy
                have hi : i < els.length := (List.getElem?_eq_some_iff.1 hx).1
                have hj : j < te.size := by rw [← hk.cells x (List.mem_of_getElem? hx)]; exact (List.getElem?_eq_some_iff.1 hy).1
                have hlt : i * te.size + j < els.length * te.size := by
                  have : (i + 1) * te.size ≤ els.length * te.size := Nat.mul_le_mul_right _ hi
                  rw [Nat.add_mul, Nat.one_mul] at this; omega
                exact ⟨v, by rw [List.getElem?_take, if_pos hlt]; simpa using g1, g2, by simpa [CellRd] using g3⟩
              have hcells : ∀ x ∈ els ++ l, x.cells.length = te.size := by
                intro x hx
                rcases List.mem_append.1 hx with hx | hx
                · exact hk.cells x hx
                · exact hS.cells x hx
              simp only [Nat.zero_mul, Nat.sub_zero]
              rcases hS.val with ⟨rfl, a1, c, rfl⟩ | ⟨ad, c, news, rfl, n1, n2, n3, n4⟩
              · have hap : Appended w w ty' te.size els.length ([] : List AV).length (some b) (cur.toList.take (els.length * te.size)) [] (.slice (some ⟨b, 0, none⟩) els.length m.cap) b m.cap cur :=
                  ⟨rfl, h1, h2, by simpa using hcap, hk.cap, .inl rfl, fun p hp => by
                    simp only [List.length_nil, Nat.add_zero] at hp
                    rw [List.append_nil, List.getElem?_take, if_pos hp]; simp, rfl, rfl, rfl, Nat.le_refl _, fun _ _ _ => rfl⟩
                obtain ⟨e', q1, q2, q3⟩ := h.appended (id := id) hu (els := els) (l := []) hap hcells (fun b' hb' => by cases hb'; exact ⟨m, hm, hb⟩) holen hold (fun i x hx => by simp at hx)
                exact ⟨_, w, e', run_append_zero hti hd hte rt hcap, q1, q2, q3⟩
              · obtain ⟨v', w', g, cap', cur', hrun, hap⟩ := run_append_row (P := P) (c := c) hti hd hte rt h1 h2 hcap hk.cap rfl n1 n2 n3 hb1 (by unfold maxLen; omega)
                obtain ⟨e', q1, q2, q3⟩ := h.appended (id := id) hu (els := els) (l := l) hap hcells (fun b' hb' => by cases hb'; exact ⟨m, hm, hb⟩) holen hold n4
                exact ⟨v', w', e', hrun, q1, q2, q3⟩
          · cases hr
        · cases hr
      · split at hr
        · rename_i hc
          obtain ⟨hb0, hu⟩ := hc
          obtain ⟨hb1, hb2⟩ := capOk_iff.1 hb0
          cases hr
          obtain rfl := hs.val_inv
          by_cases hl0 : l = []
          · subst hl0
            obtain ⟨q1, q2⟩ := h.phantom nid hu ty te.size
            rcases hS.val with ⟨_, a1, c, rfl⟩ | ⟨ad, c, news, rfl, _⟩
            · exact ⟨_, w, _, run_append_zero hti hd hte rt (Nat.le_refl _), q1, q2, Rd.own0 nid (mt none 0 te.size) (by simp [Env.set]) rfl none⟩
            · exact ⟨_, w, _, run_append_zero hti hd hte rt (Nat.le_refl _), q1, q2, Rd.own0 nid (mt none 0 te.size) (by simp [Env.set]) rfl none⟩
          · rcases hS.val with ⟨rfl, _⟩ | ⟨ad, c, news, rfl, n1, n2, n3, n4⟩
            · exact absurd rfl hl0
            · obtain ⟨v', w', g, cap', cur', hrun, hap⟩ := run_append_none (P := P) (w := w) (c := c) (a0 := none) hti hd hte rt (List.length_pos_iff.2 hl0) n1 n2 hb1 (by unfold maxLen; omega)
              obtain ⟨e', q1, q2, q3⟩ := h.appended (id := nid) hu (els := []) (l := l) hap (by simpa using hS.cells) (fun b hb' => by cases hb') (by simp) (fun i x hx => by simp at hx) n4
              exact ⟨v', w', e', hrun, q1, q2, q3⟩
        · cases hr
      · cases hr
    · cases hr
  · cases hr
#print axioms Conc.appendA
end
end Go.Sim
