/- Holders as in a market (plain). -/
import Derived.Test.YtmkclhnokelicaaPd
import Derived.Test.YtmkclhnokelicaaLo
set_option linter.all false
set_option linter.unusedVariables false
set_option linter.unusedSimpArgs false
set_option linter.unusedSectionVars false
namespace Go.Sim
open Go.Market
structure HoldOk (l : Lett) (h : List Int) : Prop where
  len : h.length = l.stalls.length
  ok : ∀ s, ∀ hs : s < h.length, h[s] = -1 ∨ ∃ a : Nat, h[s] = (a : Int) ∧ a < l.apps.length ∧ canS l.stalls (nth l.apps a) s = true
  one : ∀ s t (a : Nat), ∀ hs : s < h.length, ∀ ht : t < h.length, h[s] = (a : Int) → h[t] = (a : Int) → s = t
theorem holdE_zero {l : Lett} {h : List Int} {s : Nat} (hs : s < h.length) : holdE l h s = 0 ↔ h[s] = -1 ∨ ((∃ a : Nat, h[s] = (a : Int) ∧ a < l.apps.length ∧ canS l.stalls (nth l.apps a) s = true) ∧ h[s] ∉ h.take s) := by
  by_cases h0 : h[s] = -1
  · simp [holdE_no hs h0, h0]
  · by_cases h1 : 0 ≤ h[s] ∧ h[s] ≤ (l.apps.length : Int) - 1
    · by_cases h2 : h[s] ∈ h.take s
      · simp [holdE_two hs h1 h2, h0, h2]
      · obtain ⟨a, ha⟩ : ∃ a : Nat, h[s] = (a : Int) := ⟨h[s].toNat, by omega⟩
        have hal : a < l.apps.length := by omega
        rw [holdE_can hs ha hal h2]
        constructor
        · intro e
          right
          refine ⟨⟨a, ha, hal, ?_⟩, h2⟩
          rw [nth_get hal]
          apply Classical.byContradiction
          intro hn
          rw [if_neg hn] at e
          exact absurd e (by decide)
        · rintro (e | ⟨⟨b, hb, hbl, hc⟩, _⟩)
          · exact absurd e h0
          · have : b = a := by omega
            subst this
            rw [nth_get hbl] at hc
            rw [if_pos hc]
    · rw [holdE_out hs h0 h1]
      constructor
      · intro e; exact absurd e (by decide)
      · rintro (e | ⟨⟨b, hb, hbl, hc⟩, _⟩)
        · exact absurd e h0
        · exact absurd ⟨by omega, by omega⟩ h1
theorem checkH_zero {l : Lett} {h : List Int} : checkH l h = 0 ↔ ValidL l ∧ HoldOk l h := by
  unfold checkH
  by_cases h1 : checkL l = 0
  · have hv := checkL_zero.1 h1
    rw [if_neg (by simp [h1])]
    by_cases h2 : h.length = l.stalls.length
    · rw [if_neg (by simp [h2]), holdErr, firstNZ_zero]
      constructor
      · intro e
        have e' : ∀ s, ∀ hs : s < h.length, h[s] = -1 ∨ ((∃ a : Nat, h[s] = (a : Int) ∧ a < l.apps.length ∧ canS l.stalls (nth l.apps a) s = true) ∧ h[s] ∉ h.take s) := fun s hs => (holdE_zero hs).1 (e s (List.mem_range.2 hs))
        have aux : ∀ s t (a : Nat), ∀ hs : s < h.length, ∀ ht : t < h.length, h[s] = (a : Int) → h[t] = (a : Int) → ¬ s < t := fun s t a hs ht h3 h4 h5 => by
          rcases e' t ht with q | ⟨_, q⟩
          · omega
          · exact q (by rw [h4, ← h3]; exact List.mem_take_iff_getElem.2 ⟨s, by omega, rfl⟩)
        exact ⟨hv, h2, fun s hs => (e' s hs).imp id (fun q => q.1), fun s t a hs ht h3 h4 => by
          have := aux s t a hs ht h3 h4
          have := aux t s a ht hs h4 h3
          omega⟩
      · rintro ⟨_, k⟩ s hs
        have hs := List.mem_range.1 hs
        refine (holdE_zero hs).2 ?_
        rcases k.ok s hs with q | ⟨a, h3, h4, h5⟩
        · exact .inl q
        · refine .inr ⟨⟨a, h3, h4, h5⟩, fun hm => ?_⟩
          obtain ⟨t, ht, h6⟩ := List.mem_take_iff_getElem.1 hm
          have := k.one t s a (by omega) hs (by rw [h6, h3]) h3
          omega
    · rw [if_pos h2]
      constructor
      · intro e; exact absurd e (by decide)
      · rintro ⟨_, k⟩; exact absurd k.len h2
  · rw [if_pos h1]
    constructor
    · intro e; exact absurd e h1
    · rintro ⟨hv, _⟩; exact absurd (checkL_zero.2 hv) h1
theorem HoldOk.valid {l : Lett} {h : List Int} (k : HoldOk l h) : Valid (mktL l) (holdL h) := by
  refine ⟨fun s a hs => ?_, fun s t a hs ht => ?_⟩
  · obtain ⟨h1, h2⟩ := holdL_some.1 hs
    rcases k.ok s h1 with q | ⟨b, h3, h4, h5⟩
    · omega
    · have : b = a := by omega
      subst this
      exact ⟨by have := k.len; show s < l.stalls.length; omega, h4, h5⟩
  · obtain ⟨h1, h2⟩ := holdL_some.1 hs
    obtain ⟨h3, h4⟩ := holdL_some.1 ht
    exact k.one s t a h1 h3 h2 h4
theorem BestL.hold {l : Lett} {h : List Int} (k : BestL l h) : HoldOk l h := by
  refine ⟨k.len, fun s hs => ?_, fun s t a hs ht h1 h2 => k.best.st.valid.one s t a (holdL_some.2 ⟨hs, h1⟩) (holdL_some.2 ⟨ht, h2⟩)⟩
  rcases k.rng _ (List.getElem_mem hs) with q | q
  · exact .inl q
  · refine .inr ⟨h[s].toNat, by omega, by omega, ?_⟩
    exact (k.best.st.valid.ok s h[s].toNat (holdL_some.2 ⟨hs, by omega⟩)).2.2
/-- the place of what one has among its wishes -/
def placeL (l : Lett) (h : List Int) (a : Nat) : Nat := if (a : Int) ∈ h then (nth l.apps a).wishes.idxOf ((h.idxOf (a : Int) : Nat) : Int) else (nth l.apps a).wishes.length
theorem placeL_eq {l : Lett} {h : List Int} (k : HoldOk l h) (a : Nat) : placeL l h a = pl (mktL l) (holdL h) a := by
  unfold placeL
  by_cases hm : (a : Int) ∈ h
  · rw [if_pos hm]
    have h1 := List.idxOf_lt_length_iff.2 hm
    have h2 := List.getElem_idxOf h1
    exact (pl_some k.valid (holdL_some.2 ⟨h1, h2⟩)).symm
  · rw [if_neg hm]
    exact (pl_none (M := mktL l) fun s hs => hm (mem_holdL.2 ⟨s, hs⟩)).symm
/-- does one envy a stall -/
def envB (l : Lett) (h : List Int) (a s : Nat) : Bool := canS l.stalls (nth l.apps a) s && (decide ((nth l.apps a).wishes.idxOf (s : Int) < placeL l h a) && (decide (nth h s < 0) || !aheadB l s (nth h s).toNat a))
theorem envB_blocks {l : Lett} {h : List Int} (k : HoldOk l h) {a s : Nat} (ha : a < l.apps.length) (hs : s < l.stalls.length) : envB l h a s = true ↔ Blocks (mktL l) (holdL h) a s := by
  have hsl : s < h.length := by rw [k.len]; exact hs
  unfold envB
  rw [Bool.and_eq_true, Bool.and_eq_true, decide_eq_true_eq, Bool.or_eq_true, decide_eq_true_eq, Bool.not_eq_true', placeL_eq k, nth_get hsl]
  constructor
  · rintro ⟨h1, h2, h3⟩
    refine ⟨ha, hs, h1, h2, fun c hc => ?_⟩
    obtain ⟨_, e⟩ := holdL_some.1 hc
    have hne : a ≠ c := fun e' => by
      subst e'
      rw [pl_some k.valid hc] at h2
      exact Nat.lt_irrefl _ h2
    rw [e, Int.toNat_natCast] at h3
    refine ⟨hne, ?_⟩
    have hcl : c < l.apps.length := (k.valid.ok s c hc).2.1
    rcases h3 with h3 | h3
    · omega
    · rcases ahead_tot (s := s) ha hcl hne with q | q
      · exact q
      · rw [h3] at q; cases q
  · intro b
    refine ⟨b.can, b.more, ?_⟩
    rcases k.ok s hsl with q | ⟨c, h3, h4, h5⟩
    · left; omega
    · right
      rw [h3, Int.toNat_natCast]
      obtain ⟨q1, q2⟩ := b.ah c (holdL_some.2 ⟨hsl, h3⟩)
      exact ahead_asym q1 q2
def envL (l : Lett) (h : List Int) : List (Int × Int) := (List.range l.apps.length).flatMap fun a => ((List.range l.stalls.length).filter (envB l h a)).map fun s : Nat => ((a : Int), (s : Int))
theorem envL_nil {l : Lett} {h : List Int} (k : HoldOk l h) : envL l h = [] ↔ Stable (mktL l) (holdL h) := by
  unfold envL
  rw [List.flatMap_eq_nil_iff]
  constructor
  · intro e
    refine ⟨k.valid, fun a s hb => ?_⟩
    have h1 := e a (List.mem_range.2 hb.ha)
    rw [List.map_eq_nil_iff, List.filter_eq_nil_iff] at h1
    exact h1 s (List.mem_range.2 hb.hs) ((envB_blocks k hb.ha hb.hs).2 hb)
  · intro hS a ha
    rw [List.map_eq_nil_iff, List.filter_eq_nil_iff]
    intro s hs he
    exact hS.none a s ((envB_blocks k (List.mem_range.1 ha) (List.mem_range.1 hs)).1 he)
theorem BestL.envy {l : Lett} {h : List Int} (k : BestL l h) : envL l h = [] := (envL_nil k.hold).2 k.best.st
#print axioms BestL.envy
end Go.Sim
