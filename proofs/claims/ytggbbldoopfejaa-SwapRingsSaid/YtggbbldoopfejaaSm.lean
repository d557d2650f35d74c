/- Structs whose fields are plain numbers, truth values: equality cell by cell. -/
import Derived.Test.YtggbbldoopfejaaSl
namespace Go.Sim
section
variable {P : Program}

/-- the fields lie one after the other from cell k on, each of one cell, a number -/
def FlatF (P : Program) : Nat → List Field → Prop
  | _, [] => True
  | k, f :: r => f.name ≠ "_" ∧ f.offset = k ∧ (∃ kd, P.underlying f.type = some (.int kd)) ∧ FlatF P (k + 1) r

theorem run_part_flat {t : TypeId} (h : ∃ kd, P.underlying t = some (.int kd)) {xs : Array Value} {off : Nat} {v : Value} (hx : xs[off]? = some v) (w : World) : (part t xs off).run P w = .ok v w := by
  obtain ⟨kd, h⟩ := h
  simp [part, isAgg, run_underlying h, hx]

theorem eqFields_flat (w : World) : ∀ (fs : List Field) (k : Nat) (xs ys : List Value) (r : Bool), FlatF P k fs → k + fs.length = xs.length → eqVals (xs.drop k) (ys.drop k) = some r → (Op.eqFields 9999 xs.toArray ys.toArray fs).run P w = .ok r w
  | [], k, xs, ys, r, _, hl, he => by
    rw [List.drop_eq_nil_of_le (by simp at hl; omega)] at he
    cases hy : ys.drop k with
    | nil => rw [hy] at he; simp [eqVals] at he; subst he; rfl
    | cons y t => rw [hy] at he; simp [eqVals] at he
  | f :: fs, k, xs, ys, r, ⟨h1, h2, h3, h4⟩, hl, he => by
    simp only [List.length_cons] at hl
    have hk : k < xs.length := by omega
    have hxd : xs.drop k = xs[k] :: xs.drop (k + 1) := (List.drop_eq_getElem_cons hk)
    rw [hxd] at he
    cases hyk : ys.drop k with
    | nil => rw [hyk] at he; cases hx : xs[k] <;> rw [hx] at he <;> simp [eqVals] at he
    | cons y yt =>
      have hky : k < ys.length := by
        have := congrArg List.length hyk; simp at this; omega
      have hyd : ys.drop k = ys[k] :: ys.drop (k + 1) := (List.drop_eq_getElem_cons hky)
      have hyv : ys[k] = y ∧ ys.drop (k + 1) = yt := by rw [hyk] at hyd; cases hyd; exact ⟨rfl, rfl⟩
      rw [hyk, ← hyv.2] at he
      have p1 := run_part_flat (P := P) h3 (xs := xs.toArray) (off := f.offset) (v := xs[k]) (by rw [h2]; simp [hk]) w
      have p2 := run_part_flat (P := P) h3 (xs := ys.toArray) (off := f.offset) (v := y) (by rw [h2]; simp [hky, hyv.1]) w
      obtain ⟨kq, h3⟩ := h3
      cases hx : xs[k] with
      | int kd a =>
        rw [hx] at he p1
        cases y with
        | int kd' b =>
          simp only [eqVals] at he
          split at he
          · rename_i hkk
            subst hkk
            obtain ⟨r', hr', hrr⟩ := Option.map_eq_some_iff.1 he
            have ih := eqFields_flat w fs (k + 1) xs ys r' h4 (by omega) hr'
            simp only [Op.eqFields]
            rw [if_pos h1]
            simp only [Sem.run_bind, p1, p2, Result.andThen_ok, run_equalIn_int w 9998 f.type kd kq a b h3]
            cases hab : (a == b) with
            | true => rw [hab] at hrr; simp only [Bool.not_true, Bool.false_eq_true, if_false]; rw [ih, ← hrr]; rfl
            | false => rw [hab] at hrr; simp [← hrr]
          · cases he
        | _ => simp [eqVals] at he
      | _ => rw [hx] at he; simp [eqVals] at he

theorem eqFlat_ints {t : TypeId} {fs : Array Field} (hu : P.underlying t = some (.struct fs)) (hs : P.stoodInHeld t = false) (hg : P.eqGuardType P.depth t = false) (hsz : (P.info? t).map (·.size) = some fs.size) (hf : FlatF P 0 fs.toList) : EqFlat P t := by
  refine ⟨hg, fun w xs ys r he hl => ?_⟩
  have hfo : P.fieldsOf t = fs := by simp [Program.fieldsOf, hu]
  rw [hsz] at hl
  have hl' : fs.size = xs.length := by simpa using hl
  rw [run_equalIn_agg w 9999 t xs.toArray ys.toArray (by rw [hfo]; exact hu) hs, hfo]
  exact eqFields_flat w fs.toList 0 xs ys r hf (by simpa using hl') (by simpa using he)

/-! ### such a struct as a map's key -/
theorem keyLits_i64 {d : Nat} {t : TypeId} {a : Int} (h : P.underlying t = some (.int .i64)) (hw : (Lit.int .i64 a).wf = true) : P.keyLits (d + 1) t [.int .i64 a] = some [.int .i64 a] := by
  unfold Program.keyLits; rw [h]; simp [hw]
def FlatI (P : Program) : Nat → List Field → Prop
  | _, [] => True
  | k, f :: r => f.name ≠ "_" ∧ f.offset = k ∧ P.underlying f.type = some (.int .i64) ∧ P.cellsOf f.type = 1 ∧ FlatI P (k + 1) r
theorem FlatI.flatF {P : Program} : ∀ {k : Nat} {l : List Field}, FlatI P k l → FlatF P k l
  | _, [], _ => trivial
  | _, _ :: _, ⟨h1, h2, h3, _, h5⟩ => ⟨h1, h2, ⟨_, h3⟩, h5.flatF⟩
theorem keyLits_fields {d : Nat} {cs : List Value} : ∀ {fs : List Field} {k : Nat}, FlatI P k fs → cs.length = k + fs.length → cs.all wfI64 = true → (fs.mapM fun f => P.keyLits (d + 1) f.type ((cs.drop f.offset).take (P.cellsOf f.type))).isSome = true
  | [], k, _, _, _ => rfl
  | f :: fs, k, ⟨h1, h2, h3, h4, h5⟩, hl, hw => by
    simp only [List.length_cons] at hl
    have hk : k < cs.length := by omega
    obtain ⟨a, ha⟩ := wfI64_inv (List.all_eq_true.1 hw _ (List.getElem_mem hk))
    have hwf := List.all_eq_true.1 hw _ (List.getElem_mem hk)
    rw [ha] at hwf
    have e1 : (cs.drop f.offset).take (P.cellsOf f.type) = [.int .i64 a] := by
      rw [h2, h4, List.drop_eq_getElem_cons hk, ha]; simp
    obtain ⟨ls, hls⟩ := Option.isSome_iff_exists.1 (keyLits_fields (d := d) h5 (by omega) hw)
    rw [List.mapM_cons, e1, keyLits_i64 h3 hwf]
    simp [hls]
theorem keyTI_struct {t : TypeId} {fs : Array Field} (hu : P.underlying t = some (.struct fs)) (law : Maps.Keyed P t) (hkt : P.keyType t = true) (hsz : P.cellsOf t = fs.size) (hn : (fs.all (·.name != "_")) = true) {ts : Nat} (hts : P.types.size = ts + 1) (hf : FlatI P 0 fs.toList) {zs : Array Value} (hz : zs.size = fs.size) : KeyTI P t (.agg zs) := by
  refine ⟨law, fun v hv => ?_⟩
  cases v <;> simp only [fitsKey, Bool.false_eq_true] at hv
  rename_i xs
  simp only [Bool.and_eq_true, beq_iff_eq] at hv
  obtain ⟨h1, h2⟩ := hv
  have hx : xs.size = P.cellsOf t := by rw [← h1, hz, hsz]
  obtain ⟨ls, hls⟩ := Option.isSome_iff_exists.1 (keyLits_fields (P := P) (d := ts) hf (cs := xs.toList) (by simp [← h1, hz]) h2)
  refine ⟨.string (keyBytes ls.flatten), ?_⟩
  unfold keyOf
  rw [hu]
  simp only [hkt, Value.formed, hu, hx, beq_self_eq_true, Bool.and_self, if_true, Value.cells]
  have hk : P.keyLits (P.types.size + 1) t xs.toList = some ls.flatten := by
    unfold Program.keyLits
    rw [hu]
    simp only
    rw [if_pos ⟨by simpa using hx, hn⟩, hts, hls]; rfl
  rw [hk]; rfl
#print axioms eqFlat_ints
end
end Go.Sim
