/- Cellars, plainly: what is colder, what is known better, what truly is. -/
import Derived.Test.YtfenmmjeppehaaaQb
set_option linter.all false
set_option linter.unusedVariables false
set_option linter.unusedSimpArgs false
set_option linter.unusedSectionVars false
namespace Go.Sim
open Go.Proofs
theorem ite_le {p q : Prop} [Decidable p] [Decidable q] {a b c d : Int} (h1 : p → q → a ≤ c) (h2 : p → ¬ q → a ≤ d) (h3 : ¬ p → q → b ≤ c) (h4 : ¬ p → ¬ q → b ≤ d) : (if p then a else b) ≤ (if q then c else d) := by
  by_cases hp : p <;> by_cases hq : q
  · rw [if_pos hp, if_pos hq]; exact h1 hp hq
  · rw [if_pos hp, if_neg hq]; exact h2 hp hq
  · rw [if_neg hp, if_pos hq]; exact h3 hp hq
  · rw [if_neg hp, if_neg hq]; exact h4 hp hq
def Spn.inn (x y : Spn) : Prop := y.lo ≤ x.lo ∧ x.hi ≤ y.hi
theorem iceS_le {c : Cel} (h : ValidC c) {b : Nat} (hb : b < c.boxes.length) (t : Nat) : (iceS c b t).lo ≤ (iceS c b t).hi := iceLo_le h hb t
/-- the same boxes with more ice, less that melts, a colder hall -/
structure ColderR (c m : Cel) : Prop where
  rats : m.rats = c.rats
  fils : m.fils = c.fils
  len : m.boxes.length = c.boxes.length
  hall : m.hall.lo ≤ c.hall.lo ∧ m.hall.hi ≤ c.hall.hi
  bx : ∀ b, b < c.boxes.length → (nth c.boxes b).room ≤ (nth m.boxes b).room ∧ (nth c.boxes b).ice.lo ≤ (nth m.boxes b).ice.lo ∧ (nth c.boxes b).ice.hi ≤ (nth m.boxes b).ice.hi ∧ (nth m.boxes b).melt.lo ≤ (nth c.boxes b).melt.lo ∧ (nth m.boxes b).melt.hi ≤ (nth c.boxes b).melt.hi ∧
    (nth m.boxes b).cld = (nth c.boxes b).cld ∧ (nth m.boxes b).wrm = (nth c.boxes b).wrm
theorem ColderR.ice {c m : Cel} (r : ColderR c m) {b : Nat} (hb : b < c.boxes.length) (t : Nat) : iceLo c b t ≤ iceLo m b t ∧ iceHi c b t ≤ iceHi m b t := by
  obtain ⟨h1, h2, h3, h4, h5, _⟩ := r.bx b hb
  unfold iceLo iceHi
  rw [r.fils]
  exact ⟨fallN_mono h1 h2 fun _ _ => h5, fallN_mono h1 h3 fun _ _ => h4⟩
theorem ColderR.air {c m : Cel} (hc : ValidC c) (hm : ValidC m) (r : ColderR c m) {l : CLot} (hl : LotOk c.boxes.length l) (h : Int) : (airS m l h).lo ≤ (airS c l h).lo ∧ (airS m l h).hi ≤ (airS c l h).hi := by
  cases e : inBox l.stays h with
  | none => rw [airS_out e, airS_out e]; exact r.hall
  | some b =>
    have hb := (hl.inBox e).2.1
    have hb' : b.toNat < m.boxes.length := by rw [r.len]; exact hb
    obtain ⟨h1, h2, h3, h4, h5, h6, h7⟩ := r.bx _ hb
    have hi := r.ice hb h.toNat
    have hk := (hc.box hb)
    rw [airS_in e, airS_in e, airB_eq (iceS_le hc hb _), airB_eq (iceS_le hm hb' _), h6, h7]
    have g1 := hk.cld; have g2 := hk.wrm; have g3 := hk.clash
    simp only [iceS]
    constructor <;> refine ite_le (fun _ _ => ?_) (fun _ _ => ?_) (fun _ _ => ?_) (fun _ _ => ?_) <;> omega
theorem ColderR.lost {c m : Cel} (hc : ValidC c) (hm : ValidC m) (r : ColderR c m) {l : CLot} (hl : LotOk c.boxes.length l) (k : Nat) : (lostS m l k).lo ≤ (lostS c l k).lo ∧ (lostS m l k).hi ≤ (lostS c l k).hi :=
  lostS_air hc r.rats l fun j _ => r.air hc hm hl _
theorem lastK_anti {f g : Nat → Int} {b : Int} (h : ∀ k, g k ≤ f k) (h0 : f 0 ≤ b) (n : Nat) : lastK f b n ≤ lastK g b n :=
  lastK_max (lastK_le f b n) (by have := lastK_spec h0 n; have := h (lastK f b n); omega)
/-- narrower spans -/
structure NarrowR (c m : Cel) : Prop where
  rats : m.rats = c.rats
  fils : m.fils = c.fils
  len : m.boxes.length = c.boxes.length
  hall : m.hall.inn c.hall
  bx : ∀ b, b < c.boxes.length → (nth m.boxes b).room = (nth c.boxes b).room ∧ (nth m.boxes b).ice.inn (nth c.boxes b).ice ∧ (nth m.boxes b).melt.inn (nth c.boxes b).melt ∧ (nth m.boxes b).cld.inn (nth c.boxes b).cld ∧ (nth m.boxes b).wrm.inn (nth c.boxes b).wrm
theorem NarrowR.ice {c m : Cel} (r : NarrowR c m) {b : Nat} (hb : b < c.boxes.length) (t : Nat) : (iceS m b t).inn (iceS c b t) := by
  obtain ⟨h1, h2, h3, _⟩ := r.bx b hb
  unfold iceS iceLo iceHi
  rw [r.fils, h1]
  exact ⟨fallN_mono (Int.le_refl _) h2.1 fun _ _ => h3.2, fallN_mono (Int.le_refl _) h2.2 fun _ _ => h3.1⟩
theorem NarrowR.air {c m : Cel} (hc : ValidC c) (hm : ValidC m) (r : NarrowR c m) {l : CLot} (hl : LotOk c.boxes.length l) (h : Int) : (airS m l h).inn (airS c l h) := by
  cases e : inBox l.stays h with
  | none => rw [airS_out e, airS_out e]; exact r.hall
  | some b =>
    have hb := (hl.inBox e).2.1
    have hb' : b.toNat < m.boxes.length := by rw [r.len]; exact hb
    obtain ⟨h1, h2, h3, h4, h5⟩ := r.bx _ hb
    have hi := r.ice hb h.toNat
    have hk := (hc.box hb)
    have hk' := (hm.box hb')
    rw [airS_in e, airS_in e, airB_eq (iceS_le hc hb _), airB_eq (iceS_le hm hb' _)]
    have g1 := hk.cld; have g2 := hk.wrm; have g3 := hk.clash
    have g4 := hk'.cld; have g5 := hk'.wrm; have g6 := hk'.clash
    simp only [Spn.inn, iceS] at *
    constructor <;> refine ite_le (fun _ _ => ?_) (fun _ _ => ?_) (fun _ _ => ?_) (fun _ _ => ?_) <;> omega
theorem NarrowR.lost {c m : Cel} (hc : ValidC c) (hm : ValidC m) (r : NarrowR c m) {l : CLot} (hl : LotOk c.boxes.length l) (k : Nat) : (lostS m l k).inn (lostS c l k) :=
  lostS_within hc r.rats l fun j _ => r.air hc hm hl _
theorem verd_narrow {a b a' b' : Bool} (h1 : a = true → a' = true) (h2 : b' = true → b = true) (h3 : a' = true → b' = true) (ho : verd a b ≠ 3) : verd a' b' = verd a b := by
  revert h1 h2 h3 ho; cases a <;> cases b <;> cases a' <;> cases b' <;> decide
/-- The air of a box truly lies within, whatever the ice truly is. -/
theorem air_true {c : Cel} (hc : ValidC c) {l : CLot} (hl : LotOk c.boxes.length l) {h b x cw ww : Int} (e : inBox l.stays h = some b) (hx : iceLo c b.toNat h.toNat ≤ x ∧ x ≤ iceHi c b.toNat h.toNat)
    (hcw : (nth c.boxes b.toNat).cld.lo ≤ cw ∧ cw ≤ (nth c.boxes b.toNat).cld.hi) (hww : (nth c.boxes b.toNat).wrm.lo ≤ ww ∧ ww ≤ (nth c.boxes b.toNat).wrm.hi) : (airS c l h).lo ≤ (if 0 < x then cw else ww) ∧ (if 0 < x then cw else ww) ≤ (airS c l h).hi := by
  have hb := (hl.inBox e).2.1
  have hk := (hc.box hb)
  rw [airS_in e, airB_eq (iceS_le hc hb _)]
  have g1 := hk.cld; have g2 := hk.wrm; have g3 := hk.clash
  simp only [iceS]
  constructor <;> refine ite_le (fun _ _ => ?_) (fun _ _ => ?_) (fun _ _ => ?_) (fun _ _ => ?_) <;> omega
theorem ice_true {c : Cel} {b : Nat} {x : Int} {m : Nat → Int} (hx : (nth c.boxes b).ice.lo ≤ x ∧ x ≤ (nth c.boxes b).ice.hi) {t : Nat} (hm : ∀ k, k < t → (nth c.boxes b).melt.lo ≤ m k ∧ m k ≤ (nth c.boxes b).melt.hi) :
    iceLo c b t ≤ fallN (nth c.boxes b).room b c.fils m x t ∧ fallN (nth c.boxes b).room b c.fils m x t ≤ iceHi c b t :=
  ⟨fallN_mono (Int.le_refl _) hx.1 fun k hk => (hm k hk).2, fallN_mono (Int.le_refl _) hx.2 fun k hk => (hm k hk).1⟩
theorem fallN_congr {room b : Int} {l : List Fil} {m m' : Nat → Int} {x : Int} : ∀ {t : Nat}, (∀ k, k < t → m k = m' k) → fallN room b l m x t = fallN room b l m' x t
  | 0, _ => rfl
  | t + 1, h => by rw [fallN, fallN, fallN_congr (t := t) fun k hk => h k (by omega), h t (by omega)]
/-- The ends are reached. -/
theorem air_end {c : Cel} (hc : ValidC c) {l : CLot} (hl : LotOk c.boxes.length l) {h b : Int} (e : inBox l.stays h = some b) :
    airS c l h = ⟨if 0 < iceHi c b.toNat h.toNat then (nth c.boxes b.toNat).cld.lo else (nth c.boxes b.toNat).wrm.lo, if 0 < iceLo c b.toNat h.toNat then (nth c.boxes b.toNat).cld.hi else (nth c.boxes b.toNat).wrm.hi⟩ := by
  rw [airS_in e, airB_eq (iceS_le hc (hl.inBox e).2.1 _)]; rfl
end Go.Sim
