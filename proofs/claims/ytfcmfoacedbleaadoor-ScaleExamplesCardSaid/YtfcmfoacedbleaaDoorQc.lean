/- Tables of differences, plainly: what is closed stays closed, and says just what the facts say. -/
import Derived.Test.YtfcmfoacedbleaaDoorQb
set_option linter.all false
set_option linter.unusedVariables false
set_option linter.unusedSimpArgs false
set_option linter.unusedSectionVars false
namespace Go.Sim
open Go.Proofs
/-- by how much the number k may at most be greater than the number i -/
abbrev hi2 (t : Tab) (i k : Nat) : Int := (at2 t i k).2
/-- a closed table -/
structure Cl (n : Nat) (t : Tab) (D : Nat → Int) : Prop where
  sq : Sq n t
  anti : ∀ i k, i < n → k < n → (at2 t i k).1 = -(hi2 t k i)
  diag : ∀ i, i < n → hi2 t i i = 0
  tri : ∀ i j k, i < n → j < n → k < n → hi2 t i j < 1099511627776 → hi2 t j k < 1099511627776 → hi2 t i k ≤ hi2 t i j + hi2 t j k
  fin : ∀ i k, i < n → k < n → hi2 t i k < 1099511627776 → hi2 t k i < 1099511627776
  bnd : ∀ i k, i < n → k < n → hi2 t i k = 1099511627776 ∨ (hi2 t i k ≤ D i + D k ∧ -(D i + D k) ≤ hi2 t i k)
  dok : ∀ i, 0 ≤ D i ∧ D i ≤ 100000
/-- what a bound becomes behind a fact -/
def S3 (x c y : Int) : Int := if x = 1099511627776 ∨ y = 1099511627776 then 1099511627776 else x + c + y
theorem plus3 {u v w : Dif} (hu : u.2 = 1099511627776 ∨ (-1000000 ≤ u.2 ∧ u.2 ≤ 1000000)) (hv : -10000000 ≤ v.2 ∧ v.2 ≤ 10000000) (hw : w.2 = 1099511627776 ∨ (-1000000 ≤ w.2 ∧ w.2 ≤ 1000000)) : (plusD (plusD u v) w).2 = S3 u.2 v.2 w.2 := by
  unfold plusD S3
  simp only
  by_cases h1 : u.2 = 1099511627776
  · rw [if_pos (.inl (by rw [if_pos (.inl (by omega))]; omega)), if_pos (.inl h1)]
  · have e1 : IntKind.i64.wrap (u.2 + v.2) = u.2 + v.2 := wrap_i64 (by omega) (by omega)
    rw [if_neg (show ¬ (1099511627776 ≤ u.2 ∨ 1099511627776 ≤ v.2) by omega), e1]
    by_cases h2 : w.2 = 1099511627776
    · rw [if_pos (.inr (by omega)), if_pos (.inr h2)]
    · rw [if_neg (by omega), if_neg (by omega)]
      exact wrap_i64 (by omega) (by omega)
theorem plus3' {u v w : Dif} (hu : -u.1 = 1099511627776 ∨ (-1000000 ≤ -u.1 ∧ -u.1 ≤ 1000000)) (hv : -10000000 ≤ -v.1 ∧ -v.1 ≤ 10000000) (hw : -w.1 = 1099511627776 ∨ (-1000000 ≤ -w.1 ∧ -w.1 ≤ 1000000)) : (plusD (plusD u v) w).1 = -(S3 (-u.1) (-v.1) (-w.1)) := by
  unfold plusD S3
  simp only
  by_cases h1 : -u.1 = 1099511627776
  · rw [if_pos (.inl (by rw [if_pos (.inl (by omega))]; omega)), if_pos (.inl h1)]
  · have e1 : IntKind.i64.wrap (u.1 + v.1) = u.1 + v.1 := wrap_i64 (by omega) (by omega)
    rw [if_neg (show ¬ (u.1 ≤ -1099511627776 ∨ v.1 ≤ -1099511627776) by omega), e1]
    by_cases h2 : -w.1 = 1099511627776
    · rw [if_pos (.inr (by omega)), if_pos (.inr h2)]
    · rw [if_neg (by omega), if_neg (by omega)]
      rw [wrap_i64 (by omega) (by omega)]; omega
/-- what a table's bound becomes -/
def H3 (t : Tab) (p q : Nat) (al be : Int) (i k : Nat) : Int := min (hi2 t i k) (min (S3 (hi2 t i p) be (hi2 t q k)) (S3 (hi2 t i q) al (hi2 t p k)))
theorem Cl.small {n : Nat} {t : Tab} {D : Nat → Int} (h : Cl n t D) {i k : Nat} (hi : i < n) (hk : k < n) : hi2 t i k = 1099511627776 ∨ (-1000000 ≤ hi2 t i k ∧ hi2 t i k ≤ 1000000) := by
  have h1 := h.bnd i k hi hk
  have h2 := h.dok i
  have h3 := h.dok k
  omega
theorem S3_comm (x c y : Int) : S3 x c y = S3 y c x := by
  unfold S3
  by_cases h1 : x = 1099511627776 <;> by_cases h2 : y = 1099511627776 <;> simp [h1, h2] <;> omega
section
variable {n : Nat} {t : Tab} {D : Nat → Int} (h : Cl n t D) {p q : Nat} (hp : p < n) (hq : q < n) {e : Dif} (he : -10000000 ≤ e.1 ∧ e.1 ≤ e.2 ∧ e.2 ≤ 10000000)
include h hp hq he
theorem withE_hi {i k : Nat} (hi : i < n) (hk : k < n) : (withE t p q e i k).2 = H3 t p q (-e.1) e.2 i k := by
  have a1 := h.small hi hp
  have a2 := h.small hq hk
  have a3 := h.small hi hq
  have a4 := h.small hp hk
  have e1 : (turnD e).2 = -e.1 := wrap_i64 (by omega) (by omega)
  unfold withE bothD H3
  simp only
  rw [plus3 a1 (by omega) a2, plus3 a3 (by rw [e1]; omega) a4, e1]
  show min (min (hi2 t i k) (S3 (hi2 t i p) e.2 (hi2 t q k))) (S3 (hi2 t i q) (-e.1) (hi2 t p k)) = _
  omega
theorem withE_lo {i k : Nat} (hi : i < n) (hk : k < n) : (withE t p q e i k).1 = -(H3 t p q (-e.1) e.2 k i) := by
  have a1 := h.small hp hi
  have a2 := h.small hk hq
  have a3 := h.small hq hi
  have a4 := h.small hk hp
  have b1 : (at2 t i p).1 = -(hi2 t p i) := h.anti i p hi hp
  have b2 : (at2 t q k).1 = -(hi2 t k q) := h.anti q k hq hk
  have b3 : (at2 t i q).1 = -(hi2 t q i) := h.anti i q hi hq
  have b4 : (at2 t p k).1 = -(hi2 t k p) := h.anti p k hp hk
  have b5 : (at2 t i k).1 = -(hi2 t k i) := h.anti i k hi hk
  have e1 : (turnD e).1 = -e.2 := wrap_i64 (by omega) (by omega)
  unfold withE bothD H3
  simp only
  rw [plus3' (by rw [b1]; simpa using a1) (by omega) (by rw [b2]; simpa using a2), plus3' (by rw [b3]; simpa using a3) (by rw [e1]; omega) (by rw [b4]; simpa using a4), e1, b1, b2, b3, b4, b5]
  simp only [Int.neg_neg]
  rw [S3_comm (hi2 t p i), S3_comm (hi2 t q i)]
  omega
end
theorem S3_lt {x c y : Int} (h : S3 x c y < 1099511627776) : x ≠ 1099511627776 ∧ y ≠ 1099511627776 ∧ S3 x c y = x + c + y := by
  unfold S3 at h ⊢
  split at h
  · omega
  · rename_i hh
    rw [if_neg hh]; omega
theorem S3_fin {x c y : Int} (hx : x ≠ 1099511627776) (hy : y ≠ 1099511627776) : S3 x c y = x + c + y := by
  unfold S3; rw [if_neg (by omega)]
/-- the fact that is added: from p to q at most be, from q to p at most al -/
structure Edge (n : Nat) (t : Tab) (p q : Nat) (al be : Int) : Prop where
  hp : p < n
  hq : q < n
  b1 : be ≤ hi2 t p q
  b2 : al ≤ hi2 t q p
  b3 : 0 ≤ al + be
  b4 : be ≤ 10000000
  b5 : al ≤ 10000000
section
variable {n : Nat} {t : Tab} {D : Nat → Int} (h : Cl n t D) {p q : Nat} {al be : Int} (E : Edge n t p q al be)
include h E
/-- a bound that is finite behind the fact: one of three -/
theorem H3_cases {i k : Nat} (hi : i < n) (hk : k < n) (hf : H3 t p q al be i k < 1099511627776) :
    (hi2 t i k < 1099511627776 ∧ H3 t p q al be i k = hi2 t i k) ∨ (hi2 t i p < 1099511627776 ∧ hi2 t q k < 1099511627776 ∧ H3 t p q al be i k = hi2 t i p + be + hi2 t q k) ∨ (hi2 t i q < 1099511627776 ∧ hi2 t p k < 1099511627776 ∧ H3 t p q al be i k = hi2 t i q + al + hi2 t p k) := by
  have a1 := h.small hi E.hp
  have a2 := h.small E.hq hk
  have a3 := h.small hi E.hq
  have a4 := h.small E.hp hk
  unfold H3 at hf ⊢
  by_cases c1 : hi2 t i k ≤ min (S3 (hi2 t i p) be (hi2 t q k)) (S3 (hi2 t i q) al (hi2 t p k))
  · left; omega
  · by_cases c2 : S3 (hi2 t i p) be (hi2 t q k) ≤ S3 (hi2 t i q) al (hi2 t p k)
    · right; left
      obtain ⟨g1, g2, g3⟩ := S3_lt (x := hi2 t i p) (c := be) (y := hi2 t q k) (by omega)
      omega
    · right; right
      obtain ⟨g1, g2, g3⟩ := S3_lt (x := hi2 t i q) (c := al) (y := hi2 t p k) (by omega)
      omega
theorem H3_le1 {i k : Nat} : H3 t p q al be i k ≤ hi2 t i k := by unfold H3; omega
theorem H3_le2 {i k : Nat} (h1 : hi2 t i p < 1099511627776) (h2 : hi2 t q k < 1099511627776) : H3 t p q al be i k ≤ hi2 t i p + be + hi2 t q k := by
  have := S3_fin (c := be) (show hi2 t i p ≠ 1099511627776 by omega) (show hi2 t q k ≠ 1099511627776 by omega)
  unfold H3; omega
theorem H3_le3 {i k : Nat} (h1 : hi2 t i q < 1099511627776) (h2 : hi2 t p k < 1099511627776) : H3 t p q al be i k ≤ hi2 t i q + al + hi2 t p k := by
  have := S3_fin (c := al) (show hi2 t i q ≠ 1099511627776 by omega) (show hi2 t p k ≠ 1099511627776 by omega)
  unfold H3; omega
theorem H3_diag {i : Nat} (hi : i < n) : H3 t p q al be i i = 0 := by
  have h0 := h.diag i hi
  have h1 : H3 t p q al be i i ≤ 0 := by have := H3_le1 h E (i := i) (k := i); omega
  have b1 := E.b1; have b2 := E.b2; have b3 := E.b3
  rcases H3_cases h E hi hi (by omega) with ⟨g1, g2⟩ | ⟨g1, g2, g3⟩ | ⟨g1, g2, g3⟩
  · omega
  · have := h.tri q i p E.hq hi E.hp g2 g1; omega
  · have := h.tri p i q E.hp hi E.hq g2 g1; omega
theorem H3_tri {i j k : Nat} (hi : i < n) (hj : j < n) (hk : k < n) (f1 : H3 t p q al be i j < 1099511627776) (f2 : H3 t p q al be j k < 1099511627776) : H3 t p q al be i k ≤ H3 t p q al be i j + H3 t p q al be j k := by
  have b1 := E.b1; have b2 := E.b2; have b3 := E.b3
  have hp := E.hp; have hq := E.hq
  have fin3 : ∀ {u v w : Nat}, u < n → v < n → w < n → hi2 t u v < 1099511627776 → hi2 t v w < 1099511627776 → hi2 t u w < 1099511627776 := fun {u v w} hu hv hw g1 g2 => by
    have := h.tri u v w hu hv hw g1 g2
    have := h.small hu hv
    have := h.small hv hw
    omega
  have hd := h.diag
  rcases H3_cases h E hi hj f1 with ⟨g1, g2⟩ | ⟨g1, g2, g3⟩ | ⟨g1, g2, g3⟩ <;> rcases H3_cases h E hj hk f2 with ⟨k1, k2⟩ | ⟨k1, k2, k3⟩ | ⟨k1, k2, k3⟩
  · have := h.tri i j k hi hj hk g1 k1
    have := H3_le1 h E (i := i) (k := k)
    omega
  · have := h.tri i j p hi hj hp g1 k1
    have := H3_le2 h E (fin3 hi hj hp g1 k1) k2
    omega
  · have := h.tri i j q hi hj hq g1 k1
    have := H3_le3 h E (fin3 hi hj hq g1 k1) k2
    omega
  · have := h.tri q j k hq hj hk g2 k1
    have := H3_le2 h E g1 (fin3 hq hj hk g2 k1)
    omega
  · have := h.tri q j p hq hj hp g2 k1
    have := H3_le2 h E g1 k2
    omega
  · have := h.tri q j q hq hj hq g2 k1
    have := hd q hq
    have := h.tri i p k hi hp hk g1 k2
    have := H3_le1 h E (i := i) (k := k)
    omega
  · have := h.tri p j k hp hj hk g2 k1
    have := H3_le3 h E g1 (fin3 hp hj hk g2 k1)
    omega
  · have := h.tri p j p hp hj hp g2 k1
    have := hd p hp
    have := h.tri i q k hi hq hk g1 k2
    have := H3_le1 h E (i := i) (k := k)
    omega
  · have := h.tri p j q hp hj hq g2 k1
    have := H3_le3 h E g1 k2
    omega
theorem H3_finite {i k : Nat} (hi : i < n) (hk : k < n) (f : H3 t p q al be i k < 1099511627776) : H3 t p q al be k i < 1099511627776 := by
  have hp := E.hp; have hq := E.hq
  have b4 := E.b4; have b5 := E.b5
  rcases H3_cases h E hi hk f with ⟨g1, g2⟩ | ⟨g1, g2, g3⟩ | ⟨g1, g2, g3⟩
  · have := h.fin i k hi hk g1
    have := H3_le1 h E (i := k) (k := i)
    omega
  · have a1 := h.fin i p hi hp g1
    have a2 := h.fin q k hq hk g2
    have := H3_le3 h E a2 a1
    have := h.small hk hq
    have := h.small hp hi
    omega
  · have a1 := h.fin i q hi hq g1
    have a2 := h.fin p k hp hk g2
    have := H3_le2 h E a2 a1
    have := h.small hk hp
    have := h.small hq hi
    omega
end
/-- how a fact is added to a closed table -/
structure Step (n : Nat) (t : Tab) (p q : Nat) (d : Dif) (u : Tab) : Prop where
  sq : Sq n u
  E : Edge n t p q (-(bothD d (at2 t p q)).1) (bothD d (at2 t p q)).2
  hi : ∀ i k, i < n → k < n → hi2 u i k = H3 t p q (-(bothD d (at2 t p q)).1) (bothD d (at2 t p q)).2 i k
  lo : ∀ i k, i < n → k < n → (at2 u i k).1 = -(hi2 u k i)
theorem Cl.step {n : Nat} {t : Tab} {D : Nat → Int} (h : Cl n t D) {p q : Nat} (hp : p < n) (hq : q < n) {d : Dif} (hd : -10000000 ≤ d.1 ∧ d.2 ≤ 10000000) {u : Tab} (hu : withT t p q d = some u) : Step n t p q d u := by
  unfold withT at hu
  split at hu
  · cases hu
  rename_i hne
  cases hu
  obtain ⟨e, qe⟩ : ∃ z, bothD d (at2 t p q) = z := ⟨_, rfl⟩
  have e1 : e.1 = max d.1 (at2 t p q).1 := by rw [← qe]; rfl
  have e2 : e.2 = min d.2 (at2 t p q).2 := by rw [← qe]; rfl
  have a1 : (at2 t p q).1 = -(hi2 t q p) := h.anti p q hp hq
  rw [qe] at hne
  have he : -10000000 ≤ e.1 ∧ e.1 ≤ e.2 ∧ e.2 ≤ 10000000 := by omega
  rw [h.sq.1, qe]
  have hhi : ∀ i k, i < n → k < n → hi2 (tabF n (withE t p q e)) i k = H3 t p q (-e.1) e.2 i k := fun i k hi hk => by
    show (at2 (tabF n (withE t p q e)) i k).2 = _
    rw [tabF_at hi hk]; exact withE_hi h hp hq he hi hk
  refine ⟨tabF_sq _ _, ?_, ?_, fun i k hi hk => ?_⟩
  · rw [qe]
    have : (at2 t p q).2 = hi2 t p q := rfl
    exact ⟨hp, hq, by omega, by omega, by omega, by omega, by omega⟩
  · rw [qe]; exact hhi
  · rw [hhi k i hk hi, tabF_at hi hk]; exact withE_lo h hp hq he hi hk
theorem Step.closed {n : Nat} {t : Tab} {D : Nat → Int} (h : Cl n t D) {p q : Nat} {d : Dif} {u : Tab} (S : Step n t p q d u) {D' : Nat → Int} (hD : ∀ i, 0 ≤ D' i ∧ D' i ≤ 100000) (hb : ∀ i k, i < n → k < n → hi2 u i k = 1099511627776 ∨ hi2 u i k ≤ D' i + D' k) : Cl n u D' := by
  have hle : ∀ i k, i < n → k < n → hi2 u i k ≤ 1099511627776 := fun i k hi hk => by
    rw [S.hi i k hi hk]
    have := H3_le1 h S.E (i := i) (k := k)
    have := h.small hi hk
    omega
  have htri : ∀ i j k, i < n → j < n → k < n → hi2 u i j < 1099511627776 → hi2 u j k < 1099511627776 → hi2 u i k ≤ hi2 u i j + hi2 u j k := fun i j k hi hj hk f1 f2 => by
    rw [S.hi i j hi hj] at f1 ⊢
    rw [S.hi j k hj hk] at f2 ⊢
    rw [S.hi i k hi hk]
    exact H3_tri h S.E hi hj hk f1 f2
  have hdg : ∀ i, i < n → hi2 u i i = 0 := fun i hi => by rw [S.hi i i hi hi]; exact H3_diag h S.E hi
  have hfin : ∀ i k, i < n → k < n → hi2 u i k < 1099511627776 → hi2 u k i < 1099511627776 := fun i k hi hk f => by
    rw [S.hi i k hi hk] at f
    rw [S.hi k i hk hi]
    exact H3_finite h S.E hi hk f
  refine ⟨S.sq, S.lo, hdg, htri, hfin, fun i k hi hk => ?_, hD⟩
  rcases hb i k hi hk with h1 | h1
  · exact .inl h1
  · have q1 := hD i
    have q2 := hD k
    have f1 : hi2 u i k < 1099511627776 := by omega
    have f2 := hfin i k hi hk f1
    have := htri i k i hi hk hi f1 f2
    have := hdg i hi
    have := hb k i hk hi
    exact .inr ⟨h1, by omega⟩
/-- everything is known of every two numbers -/
def Full (n : Nat) (t : Tab) : Prop := ∀ i k, i < n → k < n → hi2 t i k < 1099511627776
theorem Step.full {n : Nat} {t : Tab} {D : Nat → Int} (h : Cl n t D) (hf : Full n t) {p q : Nat} {d : Dif} {u : Tab} (S : Step n t p q d u) : Cl n u D ∧ Full n u := by
  have hle : ∀ i k, i < n → k < n → hi2 u i k ≤ hi2 t i k := fun i k hi hk => by rw [S.hi i k hi hk]; exact H3_le1 h S.E
  refine ⟨S.closed h h.dok fun i k hi hk => ?_, fun i k hi hk => ?_⟩
  · have h1 := hle i k hi hk
    have h2 := hf i k hi hk
    rcases h.bnd i k hi hk with h3 | h3
    · omega
    · exact .inr (by omega)
  · have h1 := hle i k hi hk
    have h2 := hf i k hi hk
    omega
/-- a number of which nothing was known is tied to one -/
theorem Step.tied {n : Nat} {t : Tab} {D : Nat → Int} (h : Cl n t D) {p q : Nat} {d : Dif} {u : Tab} (S : Step n t p q d u) (hfr : ∀ k, k < n → k ≠ q → hi2 t q k = 1099511627776 ∧ hi2 t k q = 1099511627776) (hpq : p ≠ q) (hd : -(D q - D p) ≤ d.1 ∧ d.2 ≤ D q - D p) : Cl n u D := by
  have hp := S.E.hp; have hq := S.E.hq
  have c1 : (bothD d (at2 t p q)).2 ≤ d.2 := by show min _ _ ≤ _; omega
  have c2 : -(bothD d (at2 t p q)).1 ≤ -d.1 := by show -(max _ _) ≤ _; omega
  refine S.closed h h.dok fun i k hi hk => ?_
  have hle : hi2 u i k ≤ 1099511627776 := by
    rw [S.hi i k hi hk]
    have := H3_le1 h S.E (i := i) (k := k)
    have := h.small hi hk
    omega
  by_cases f : hi2 u i k = 1099511627776
  · exact .inl f
  right
  rw [S.hi i k hi hk] at f hle ⊢
  rcases H3_cases h S.E hi hk (by omega) with ⟨g1, g2⟩ | ⟨g1, g2, g3⟩ | ⟨g1, g2, g3⟩
  · have := h.bnd i k hi hk; omega
  · have hkq : k = q := by
      by_cases e : k = q
      · exact e
      · have := (hfr k hk e).1; omega
    subst hkq
    have := h.bnd i p hi hp
    have := h.diag k hk
    omega
  · have hiq : i = q := by
      by_cases e : i = q
      · exact e
      · have := (hfr i hi e).2; omega
    subst hiq
    have := h.bnd p k hp hk
    have := h.diag i hi
    omega
/-- numbers of which all holds that a table says -/
def Sol (n : Nat) (t : Tab) (x : Nat → Int) : Prop := ∀ i k, i < n → k < n → hi2 t i k < 1099511627776 → x k - x i ≤ hi2 t i k
theorem Step.sol {n : Nat} {t : Tab} {D : Nat → Int} (h : Cl n t D) {p q : Nat} {d : Dif} (hd : -10000000 ≤ d.1 ∧ d.2 ≤ 10000000) {u : Tab} (S : Step n t p q d u) {x : Nat → Int} : Sol n u x ↔ Sol n t x ∧ d.1 ≤ x q - x p ∧ x q - x p ≤ d.2 := by
  have hp := S.E.hp; have hq := S.E.hq
  obtain ⟨e, qe⟩ : ∃ z, bothD d (at2 t p q) = z := ⟨_, rfl⟩
  have e1 : e.1 = max d.1 (at2 t p q).1 := by rw [← qe]; rfl
  have e2 : e.2 = min d.2 (at2 t p q).2 := by rw [← qe]; rfl
  have a1 : (at2 t p q).1 = -(hi2 t q p) := h.anti p q hp hq
  have a2 : (at2 t p q).2 = hi2 t p q := rfl
  have E := S.E
  have SH := S.hi
  rw [qe] at E SH
  constructor
  · intro hs
    refine ⟨fun i k hi hk f => ?_, ?_, ?_⟩
    · have h1 := H3_le1 h E (i := i) (k := k)
      have h2 := hs i k hi hk (by rw [SH i k hi hk]; omega)
      rw [SH i k hi hk] at h2; omega
    · have d1 := h.diag p hp
      have d2 := h.diag q hq
      have h1 := H3_le3 h E (i := q) (k := p) (by omega) (by omega)
      have := E.b5
      have h2 := hs q p hq hp (by rw [SH q p hq hp]; omega)
      rw [SH q p hq hp] at h2; omega
    · have d1 := h.diag p hp
      have d2 := h.diag q hq
      have h1 := H3_le2 h E (i := p) (k := q) (by omega) (by omega)
      have := E.b4
      have h2 := hs p q hp hq (by rw [SH p q hp hq]; omega)
      rw [SH p q hp hq] at h2; omega
  · rintro ⟨hs, h1, h2⟩ i k hi hk f
    rw [SH i k hi hk] at f ⊢
    have m1 := h.small hp hq
    have m2 := h.small hq hp
    have x1 : x q - x p ≤ e.2 := by
      by_cases c : hi2 t p q < 1099511627776
      · have := hs p q hp hq c; omega
      · omega
    have x2 : x p - x q ≤ -e.1 := by
      by_cases c : hi2 t q p < 1099511627776
      · have := hs q p hq hp c; omega
      · omega
    rcases H3_cases h E hi hk f with ⟨g1, g2⟩ | ⟨g1, g2, g3⟩ | ⟨g1, g2, g3⟩
    · have := hs i k hi hk g1; omega
    · have := hs i p hi hp g1
      have := hs q k hq hk g2
      omega
    · have := hs i q hi hq g1
      have := hs p k hp hk g2
      omega
theorem blank_closed {n : Nat} {D : Nat → Int} (hD : ∀ i, 0 ≤ D i ∧ D i ≤ 100000) : Cl n (blankT n) D ∧ ∀ x, Sol n (blankT n) x := by
  have ha : ∀ {i k}, i < n → k < n → at2 (blankT n) i k = if i = k then (0, 0) else (-1099511627776, 1099511627776) := fun hi hk => tabF_at hi hk
  have hh : ∀ {i k}, i < n → k < n → hi2 (blankT n) i k = if i = k then 0 else 1099511627776 := fun {i k} hi hk => by
    show (at2 (blankT n) i k).2 = _
    rw [ha hi hk]; split <;> rfl
  refine ⟨⟨tabF_sq _ _, fun i k hi hk => ?_, fun i hi => ?_, fun i j k hi hj hk f1 f2 => ?_, fun i k hi hk f => ?_, fun i k hi hk => ?_, hD⟩, fun x i k hi hk f => ?_⟩
  · rw [hh hk hi, ha hi hk]
    by_cases e : i = k
    · subst e; simp
    · rw [if_neg e, if_neg (Ne.symm e)]
  · rw [hh hi hi, if_pos rfl]
  · rw [hh hi hj] at f1 ⊢
    rw [hh hj hk] at f2 ⊢
    rw [hh hi hk]
    have e1 : i = j := by by_cases e : i = j; exact e; rw [if_neg e] at f1; omega
    have e2 : j = k := by by_cases e : j = k; exact e; rw [if_neg e] at f2; omega
    subst e1; subst e2; simp
  · rw [hh hi hk] at f
    rw [hh hk hi]
    have e1 : i = k := by by_cases e : i = k; exact e; rw [if_neg e] at f; omega
    subst e1; simp
  · rw [hh hi hk]
    have := hD i; have := hD k
    by_cases e : i = k
    · rw [if_pos e]; right; omega
    · rw [if_neg e]; left; rfl
  · rw [hh hi hk] at f ⊢
    have e1 : i = k := by by_cases e : i = k; exact e; rw [if_neg e] at f; omega
    subst e1; simp
end Go.Sim
