/- The reference's search for a group that blocks. -/
import Derived.Test.YticllllmgpjbcaaVo
namespace Go.Sim.W6
open Go.Proofs Go.Plain
set_option maxRecDepth 100000
set_option linter.unusedSimpArgs false
set_option linter.unusedVariables false
attribute [-simp] List.map_set List.map_take List.map_drop
attribute [local simp] take_map' drop_map'
section
variable {P : Program} {Γ : TypeId → Option TI} {ops rest : List Oper} {deps : List (List Nat)} {eff : List (Nat × List Nat)} {s0 v : St} {K : St → Prop} {n k : Nat} {ents ents' : List REnt} {o : Oper}
theorem DGt.app (hΓ : TOk P Γ) (ids : List Nat) {r : AV} {new : List (Nat × Obj)} (he : evalApp Γ o v = some (r, new)) (hf : (match slotId o with | some nid => (look nid v.objs).isNone | none => true) = true) (hn : outIn ids o v new = true) (hk : ids = [] ∨ (k, ids) ∈ eff)
    (hs : ents ++ [⟨o.dst, r, new⟩] = ents') (h : WDraw P ops deps eff s0 K n rest (k + 1) ents') : DGt P ops deps eff s0 K n o rest k ents v := fun hv hw => WDraw.app hΓ ids hv hw he hf hn hk hs h
theorem WGt.frz {st st' : St} (hl : Le st st') (hw' : wantedA ops o st' = some true) (hd : dstOk o st = true) (h : WGt P ops K o rest st') : WGt P ops K o rest st := fun hw => by
  obtain ⟨_, t, h1, h2⟩ := h hw'
  rw [hw'] at h1
  cases h1
  simp only [if_true] at h2
  refine ⟨hd, true, hw, ?_⟩
  simp only [if_true]
  intro rd a w e hc next Q hn
  obtain ⟨e2, c2, f2⟩ := hl a w e hc
  exact h2 rd a w e2 c2 next Q fun r s v w' e' hK h3 h4 h5 => hn r s v w' e' hK h3 (f2.trans h4) h5
end
theorem take_app1 {α β : Type} (f : α → β) (l : List α) (x : β) : (l.map f ++ [x]).take (l.length + 1) = l.map f ++ [x] := List.take_of_length_le (by simp)
def rkR (ow : List Turn) (lk : List (List Turn)) (i : Nat) (x : Turn) : Nat := (takesT ow lk i).idxOf x
def cho (n : Nat) : Nat → Nat → List (List Nat)
  | 0, _ => [[]]
  | m + 1, i => (List.range' i (n - i)).flatMap fun j => (cho n m (j + 1)).map (j :: ·)
theorem cho_len {n : Nat} : ∀ {m i : Nat} {l : List Nat}, l ∈ cho n m i → l.length = m ∧ ∀ y ∈ l, i ≤ y ∧ y < n
  | 0, i, l, h => by simp [cho] at h; subst h; simp
  | m + 1, i, l, h => by
    simp only [cho, List.mem_flatMap, List.mem_map, List.mem_range'_1] at h
    obtain ⟨j, hj, r, hr, rfl⟩ := h
    obtain ⟨h1, h2⟩ := cho_len hr
    refine ⟨by simp [h1], fun y hy => ?_⟩
    rcases List.mem_cons.1 hy with rfl | hy
    · omega
    · have := h2 y hy; omega
end Go.Sim.W6
