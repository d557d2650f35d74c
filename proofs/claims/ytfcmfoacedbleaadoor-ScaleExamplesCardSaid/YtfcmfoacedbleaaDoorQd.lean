/- Benches, plainly: what is known without any result, and with results. -/
import Derived.Test.YtfcmfoacedbleaaDoorQc
set_option linter.all false
set_option linter.unusedVariables false
set_option linter.unusedSimpArgs false
set_option linter.unusedSectionVars false
namespace Go.Sim
open Go.Proofs
/-- how many numbers there are -/
def dd (b : Ben) : Nat := b.days.toNat + 1
def sizeB (b : Ben) : Nat := 1 + b.mas.length + b.scl.length * dd b
def dayN (b : Ben) (s d : Nat) : Nat := 1 + b.mas.length + s * dd b + d
/-- the facts without any result: fact k ties the number k + 1 -/
def fromF' (b : Ben) (k : Nat) : Nat := if k < b.mas.length then 0 else if (k - b.mas.length) % dd b = 0 then 0 else k
def difF (b : Ben) (k : Nat) : Dif := if k < b.mas.length then ((nth b.mas k).off.lo, (nth b.mas k).off.hi) else
  if (k - b.mas.length) % dd b = 0 then (-(nth b.scl ((k - b.mas.length) / dd b)).fst.hi, -(nth b.scl ((k - b.mas.length) / dd b)).fst.lo)
  else (-(nth b.scl ((k - b.mas.length) / dd b)).dri.hi, -(nth b.scl ((k - b.mas.length) / dd b)).dri.lo)
/-- how far a number may be from the number 0 -/
def farF (b : Ben) (v : Nat) : Int := if v = 0 then 0 else if v - 1 < b.mas.length then 10000 else 10000 * (((v - 1 - b.mas.length) % dd b : Nat) + 1)
def startN (b : Ben) : Nat → Tab
  | 0 => blankT (sizeB b)
  | k + 1 => (withT (startN b k) (fromF' b k) (k + 1) (difF b k)).getD []
abbrev startT (b : Ben) : Tab := startN b (sizeB b - 1)
theorem dd_le {b : Ben} (hv : ValidB b) : dd b ≤ 9 := by unfold dd; have := hv.days; omega
theorem dd_pos (b : Ben) : 0 < dd b := by unfold dd; omega
theorem sizeB_le {b : Ben} (hv : ValidB b) : 3 ≤ sizeB b ∧ sizeB b ≤ 33 := by
  unfold sizeB
  have h1 := hv.m1; have h2 := hv.m5; have h3 := hv.s1; have h4 := hv.s3
  have h5 := dd_le hv; have h6 := dd_pos b
  have h7 : b.scl.length * dd b ≤ 3 * 9 := Nat.mul_le_mul h4 h5
  have h8 : 1 * 1 ≤ b.scl.length * dd b := Nat.mul_le_mul h3 h6
  omega
theorem farF_ok {b : Ben} (hv : ValidB b) (v : Nat) : 0 ≤ farF b v ∧ farF b v ≤ 100000 := by
  have h5 := dd_le hv; have h6 := dd_pos b
  unfold farF
  split
  · omega
  · split
    · omega
    · have := Nat.mod_lt (v - 1 - b.mas.length) h6
      omega
theorem fromF_lt {b : Ben} {k : Nat} (hk : k + 1 < sizeB b) : fromF' b k ≤ k := by unfold fromF'; split; omega; split <;> omega
theorem scl_lt {b : Ben} {k : Nat} (hm : b.mas.length ≤ k) (hk : k + 1 < sizeB b) : (k - b.mas.length) / dd b < b.scl.length := by
  unfold sizeB at hk
  exact Nat.div_lt_of_lt_mul (by rw [Nat.mul_comm]; omega)
/-- what a fact says is bounded -/
theorem difF_ok {b : Ben} (hv : ValidB b) {k : Nat} (hk : k + 1 < sizeB b) : (difF b k).1 ≤ (difF b k).2 ∧ -10000 ≤ (difF b k).1 ∧ (difF b k).2 ≤ 10000 := by
  unfold difF
  by_cases h1 : k < b.mas.length
  · rw [if_pos h1, nth_get h1]
    have := hv.mas _ (List.getElem_mem h1)
    show b.mas[k].off.lo ≤ b.mas[k].off.hi ∧ _
    omega
  · rw [if_neg h1]
    have h2 := scl_lt (by omega) hk
    rw [nth_get h2]
    have := hv.scl _ (List.getElem_mem h2)
    split
    · show -(b.scl[(k - b.mas.length) / dd b]).fst.hi ≤ -(b.scl[(k - b.mas.length) / dd b]).fst.lo ∧ _
      dsimp only
      omega
    · show -(b.scl[(k - b.mas.length) / dd b]).dri.hi ≤ -(b.scl[(k - b.mas.length) / dd b]).dri.lo ∧ _
      dsimp only
      omega
theorem farF_step {b : Ben} {k : Nat} : farF b (k + 1) = farF b (fromF' b k) + 10000 := by
  unfold fromF'
  by_cases h1 : k < b.mas.length
  · rw [if_pos h1]
    unfold farF
    rw [if_neg (by omega), if_pos (by omega), if_pos rfl]; rfl
  · rw [if_neg h1]
    by_cases h2 : (k - b.mas.length) % dd b = 0
    · rw [if_pos h2]
      unfold farF
      rw [if_neg (by omega), if_neg (by omega), if_pos rfl, show k + 1 - 1 - b.mas.length = k - b.mas.length by omega, h2]; rfl
    · rw [if_neg h2]
      have h0 : 0 < k - b.mas.length := by
        by_cases e : k - b.mas.length = 0
        · rw [e, Nat.zero_mod] at h2; exact absurd rfl h2
        · omega
      have hp := dd_pos b
      have e : (k - b.mas.length) % dd b = (k - 1 - b.mas.length) % dd b + 1 := by
        obtain ⟨j, hj⟩ : ∃ j, k - b.mas.length = j + 1 := ⟨k - b.mas.length - 1, by omega⟩
        have hj2 : k - 1 - b.mas.length = j := by omega
        rw [hj, hj2]
        rw [hj] at h2
        have h3 := Nat.mod_lt j hp
        by_cases h4 : j % dd b + 1 < dd b
        · rw [Nat.add_mod, Nat.mod_eq_of_lt (a := 1) (by omega), Nat.mod_eq_of_lt h4]
        · exfalso
          have h5 : dd b = j % dd b + 1 := by omega
          apply h2
          have h6 := Nat.div_add_mod j (dd b)
          have h7 : j + 1 = dd b * (j / dd b + 1) := by rw [Nat.mul_add, Nat.mul_one]; omega
          rw [h7, Nat.mul_mod_right]
      unfold farF
      rw [if_neg (by omega), if_neg (by omega), if_neg (by omega)]
      by_cases h5 : k - 1 < b.mas.length
      · rw [if_pos h5, show k + 1 - 1 - b.mas.length = k - b.mas.length by omega, e, show k - 1 - b.mas.length = 0 by omega, Nat.zero_mod]; rfl
      · rw [if_neg h5, show k + 1 - 1 - b.mas.length = k - b.mas.length by omega, e]; omega
/-- what holds of a table when the numbers up to k are tied -/
structure StOk (b : Ben) (k : Nat) (t : Tab) : Prop where
  cl : Cl (sizeB b) t (farF b)
  fresh : ∀ v u, k < v → v < sizeB b → u < sizeB b → u ≠ v → hi2 t v u = 1099511627776 ∧ hi2 t u v = 1099511627776
  tied : ∀ u v, u ≤ k → v ≤ k → u < sizeB b → v < sizeB b → hi2 t u v < 1099511627776
  sol : ∀ x, Sol (sizeB b) t x ↔ ∀ j, j < k → (difF b j).1 ≤ x (j + 1) - x (fromF' b j) ∧ x (j + 1) - x (fromF' b j) ≤ (difF b j).2
theorem StOk.init {b : Ben} (hv : ValidB b) : StOk b 0 (startN b 0) := by
  obtain ⟨h1, h2⟩ := blank_closed (n := sizeB b) (farF_ok hv)
  refine ⟨h1, fun v u hv1 hv2 hu hne => ?_, fun u v hu hv' hu2 hv2 => ?_, fun x => ⟨fun _ j hj => by omega, fun _ => h2 x⟩⟩
  · have ha : ∀ {i k}, i < sizeB b → k < sizeB b → i ≠ k → hi2 (blankT (sizeB b)) i k = 1099511627776 := fun hi hk he => by
      show (at2 _ _ _).2 = _
      rw [blankT, tabF_at hi hk, if_neg he]
    exact ⟨ha hv2 hu (Ne.symm hne), ha hu hv2 hne⟩
  · obtain rfl : u = 0 := by omega
    obtain rfl : v = 0 := by omega
    show hi2 (blankT _) 0 0 < _
    rw [h1.diag 0 hu2]; decide
theorem StOk.step {b : Ben} (hv : ValidB b) {k : Nat} (hk : k + 1 < sizeB b) {t : Tab} (S : StOk b k t) : ∃ u, withT t (fromF' b k) (k + 1) (difF b k) = some u ∧ StOk b (k + 1) u := by
  obtain ⟨p, hp⟩ : ∃ p, fromF' b k = p := ⟨_, rfl⟩
  obtain ⟨d, hd⟩ : ∃ d, difF b k = d := ⟨_, rfl⟩
  have hpk : p ≤ k := by rw [← hp]; exact fromF_lt hk
  have d0 := difF_ok hv hk
  rw [hd] at d0
  have hfs := farF_step (b := b) (k := k)
  rw [hp] at hfs
  rw [hp, hd]
  have f1 := S.fresh (k + 1) p (by omega) hk (by omega) (by omega)
  have a1 : (at2 t p (k + 1)).1 = -(hi2 t (k + 1) p) := S.cl.anti p (k + 1) (by omega) hk
  have a2 : (at2 t p (k + 1)).2 = hi2 t p (k + 1) := rfl
  have hne : withT t p (k + 1) d ≠ none := by
    unfold withT
    rw [if_neg]
    · simp
    · show ¬ (min d.2 (at2 t p (k + 1)).2 < max d.1 (at2 t p (k + 1)).1)
      omega
  obtain ⟨u, hu⟩ := Option.ne_none_iff_exists'.1 hne
  have hst := S.cl.step (by omega) hk (by omega) hu
  have hcu := hst.tied S.cl (fun v h1 h2 => S.fresh (k + 1) v (by omega) hk h1 h2) (by omega) (by omega)
  have hbe : (bothD d (at2 t p (k + 1))).2 = d.2 := by show min _ _ = _; omega
  have hal : (bothD d (at2 t p (k + 1))).1 = d.1 := by show max _ _ = _; omega
  have dg := S.cl.diag (k + 1) hk
  refine ⟨u, hu, hcu, fun v w h1 h2 h3 h4 => ?_, fun v w h1 h2 h3 h4 => ?_, fun x => ?_⟩
  · have key : ∀ i j, i < sizeB b → j < sizeB b → (i = v ∧ j = w) ∨ (i = w ∧ j = v) → hi2 u i j = 1099511627776 := by
      intro i j hi hj hij
      have hle : hi2 u i j ≤ 1099511627776 := by
        rw [hst.hi i j hi hj]
        have := H3_le1 S.cl hst.E (i := i) (k := j)
        have := S.cl.small hi hj
        omega
      by_cases c : hi2 u i j < 1099511627776
      · exfalso
        have g1 := fun z hz1 hz2 => S.fresh v z (by omega) h2 hz1 hz2
        rw [hst.hi i j hi hj] at c
        rcases H3_cases S.cl hst.E hi hj c with ⟨q1, _⟩ | ⟨q1, q2, _⟩ | ⟨q1, q2, _⟩
        · rcases hij with ⟨rfl, rfl⟩ | ⟨rfl, rfl⟩
          · have := (g1 j h3 h4).1; omega
          · have := (g1 i h3 h4).2; omega
        · rcases hij with ⟨rfl, rfl⟩ | ⟨rfl, rfl⟩
          · have := (g1 p (by omega) (by omega)).1; omega
          · have := (g1 (k + 1) hk (by omega)).2; omega
        · rcases hij with ⟨rfl, rfl⟩ | ⟨rfl, rfl⟩
          · have := (g1 (k + 1) hk (by omega)).1; omega
          · have := (g1 p (by omega) (by omega)).2; omega
      · omega
    exact ⟨key v w h2 h3 (.inl ⟨rfl, rfl⟩), key w v h3 h2 (.inr ⟨rfl, rfl⟩)⟩
  · rw [hst.hi v w h3 h4]
    have b4 := hst.E.b4; have b5 := hst.E.b5
    by_cases e1 : v ≤ k <;> by_cases e2 : w ≤ k
    · have := H3_le1 S.cl hst.E (i := v) (k := w)
      have := S.tied v w e1 e2 h3 h4
      omega
    · obtain rfl : w = k + 1 := by omega
      have t1 := S.tied v p e1 hpk h3 (by omega)
      have := H3_le2 S.cl hst.E (i := v) (k := k + 1) t1 (by omega)
      have := S.cl.small h3 (show p < sizeB b by omega)
      omega
    · obtain rfl : v = k + 1 := by omega
      have t1 := S.tied p w hpk e2 (by omega) h4
      have := H3_le3 S.cl hst.E (i := k + 1) (k := w) (by omega) t1
      have := S.cl.small (show p < sizeB b by omega) h4
      omega
    · obtain rfl : w = k + 1 := by omega
      obtain rfl : v = k + 1 := by omega
      have := H3_le1 S.cl hst.E (i := k + 1) (k := k + 1)
      omega
  · rw [hst.sol S.cl (by omega), S.sol]
    constructor
    · rintro ⟨h1, h2⟩ j hj
      by_cases e : j = k
      · subst e; rw [hp, hd]; exact h2
      · exact h1 j (by omega)
    · intro h1
      exact ⟨fun j hj => h1 j (by omega), by have := h1 k (by omega); rw [hp, hd] at this; exact this⟩
theorem startN_ok {b : Ben} (hv : ValidB b) : ∀ k, k < sizeB b → StOk b k (startN b k)
  | 0, _ => StOk.init hv
  | k + 1, hk => by
    obtain ⟨u, h1, h2⟩ := (startN_ok hv k (by omega)).step hv hk
    rw [startN, h1]; exact h2
/-- fact k can be added -/
theorem startN_next {b : Ben} (hv : ValidB b) {k : Nat} (hk : k + 1 < sizeB b) : withT (startN b k) (fromF' b k) (k + 1) (difF b k) = some (startN b (k + 1)) := by
  obtain ⟨u, h1, h2⟩ := (startN_ok hv k (by omega)).step hv hk
  rw [startN, h1]; rfl
theorem startN_sq {b : Ben} (hv : ValidB b) {k : Nat} (hk : k < sizeB b) : Sq (sizeB b) (startN b k) := (startN_ok hv k hk).cl.sq
/-- without any result -/
def Base (b : Ben) (x : Nat → Int) : Prop := ∀ j, j + 1 < sizeB b → (difF b j).1 ≤ x (j + 1) - x (fromF' b j) ∧ x (j + 1) - x (fromF' b j) ≤ (difF b j).2
theorem startT_ok {b : Ben} (hv : ValidB b) : Cl (sizeB b) (startT b) (farF b) ∧ Full (sizeB b) (startT b) ∧ ∀ x, Sol (sizeB b) (startT b) x ↔ Base b x := by
  have h1 := (sizeB_le hv).1
  have h2 := startN_ok hv (sizeB b - 1) (by omega)
  exact ⟨h2.cl, fun i k hi hk => h2.tied i k (by omega) (by omega) hi hk, fun x => (h2.sol x).trans ⟨fun h j hj => h j (by omega), fun h j hj => h j (by omega)⟩⟩
/-! results -/
abbrev Fct := Nat × Nat × Dif
def FctOk (n : Nat) (f : Fct) : Prop := f.1 < n ∧ f.2.1 < n ∧ (-10000000 ≤ f.2.2.1 ∧ f.2.2.1 ≤ 10000000) ∧ -10000000 ≤ f.2.2.2 ∧ f.2.2.2 ≤ 10000000
def FctHolds (x : Nat → Int) (f : Fct) : Prop := f.2.2.1 ≤ x f.2.1 - x f.1 ∧ x f.2.1 - x f.1 ≤ f.2.2.2
def addAll (t : Tab) : List Fct → Option Tab
  | [] => some t
  | f :: l => match withT t f.1 f.2.1 f.2.2 with
    | some u => addAll u l
    | none => none
theorem addAll_some {n : Nat} {D : Nat → Int} : ∀ {l : List Fct} {t u : Tab}, Cl n t D → Full n t → (∀ f ∈ l, FctOk n f) → addAll t l = some u → Cl n u D ∧ Full n u ∧ ∀ x, Sol n u x ↔ Sol n t x ∧ ∀ f ∈ l, FctHolds x f
  | [], t, u, h, hf, _, hu => by cases hu; exact ⟨h, hf, fun x => by simp⟩
  | f :: l, t, u, h, hf, hl, hu => by
    rw [addAll] at hu
    have f0 := hl f (by simp)
    split at hu
    · rename_i v hv
      have hst := h.step f0.1 f0.2.1 ⟨f0.2.2.1.1, f0.2.2.2.2⟩ hv
      obtain ⟨g1, g2⟩ := hst.full h hf
      obtain ⟨k1, k2, k3⟩ := addAll_some g1 g2 (fun y hy => hl y (by simp [hy])) hu
      refine ⟨k1, k2, fun x => ?_⟩
      rw [k3 x, hst.sol h ⟨f0.2.2.1.1, f0.2.2.2.2⟩]
      simp only [List.mem_cons, forall_eq_or_imp, FctHolds]
      constructor
      · rintro ⟨⟨a1, a2⟩, a3⟩; exact ⟨a1, a2, a3⟩
      · rintro ⟨a1, a2, a3⟩; exact ⟨⟨a1, a2⟩, a3⟩
    · cases hu
theorem addAll_append (l m : List Fct) : ∀ (t : Tab), addAll t (l ++ m) = match addAll t l with | some u => addAll u m | none => none := by
  induction l with
  | nil => intro t; rfl
  | cons f l ih =>
    intro t
    rw [List.cons_append, addAll, addAll]
    split
    · rw [ih]
    · rfl
def weiF (w : Wei) : Fct := (1 + w.b.toNat, 1 + w.a.toNat, (w.dif.lo, w.dif.hi))
def triF (b : Ben) (t : Tri) : Fct := (dayN b t.sc.toNat t.day.toNat, 1 + t.ms.toNat, (t.sh - (nth b.mas t.ms.toNat).nom, t.sh - (nth b.mas t.ms.toNat).nom))
def resF (b : Ben) : List Fct := b.wei.map weiF ++ b.tri.map (triF b)
theorem dayN_lt {b : Ben} {s d : Nat} (hs : s < b.scl.length) (hd : d < dd b) : dayN b s d < sizeB b := by
  unfold dayN sizeB
  have : (s + 1) * dd b ≤ b.scl.length * dd b := Nat.mul_le_mul_right _ hs
  rw [Nat.add_mul, Nat.one_mul] at this
  omega
theorem resF_ok {b : Ben} (hv : ValidB b) : ∀ f ∈ resF b, FctOk (sizeB b) f := by
  intro f hf
  have hp := sizeB_le hv
  have hms : b.mas.length < sizeB b := by unfold sizeB; omega
  rcases List.mem_append.1 hf with hf | hf
  · obtain ⟨w, hw, rfl⟩ := List.mem_map.1 hf
    have := hv.wei w hw
    exact ⟨by show 1 + w.b.toNat < _; omega, by show 1 + w.a.toNat < _; omega, ⟨by show _ ≤ w.dif.lo; omega, by show w.dif.lo ≤ _; omega⟩, by show _ ≤ w.dif.hi; omega, by show w.dif.hi ≤ _; omega⟩
  · obtain ⟨t, ht, rfl⟩ := List.mem_map.1 hf
    have := hv.tri t ht
    have hm : t.ms.toNat < b.mas.length := by omega
    have h2 := hv.mas _ (List.getElem_mem hm)
    have hdy := hv.days
    refine ⟨dayN_lt (by omega) (by unfold dd; omega), by show 1 + t.ms.toNat < _; omega, ?_⟩
    show (-10000000 ≤ t.sh - (nth b.mas t.ms.toNat).nom ∧ t.sh - (nth b.mas t.ms.toNat).nom ≤ 10000000) ∧ -10000000 ≤ t.sh - (nth b.mas t.ms.toNat).nom ∧ t.sh - (nth b.mas t.ms.toNat).nom ≤ 10000000
    rw [nth_get hm]; omega
/-- what is known with all results -/
def knownT (b : Ben) : Option Tab := addAll (startT b) (resF b)
/-- numbers with which all results hold -/
def Fits (b : Ben) (x : Nat → Int) : Prop := Base b x ∧ ∀ f ∈ resF b, FctHolds x f
theorem known_some {b : Ben} (hv : ValidB b) {u : Tab} (hu : knownT b = some u) : Cl (sizeB b) u (farF b) ∧ Full (sizeB b) u ∧ ∀ x, Sol (sizeB b) u x ↔ Fits b x := by
  obtain ⟨h1, h2, h3⟩ := startT_ok hv
  obtain ⟨g1, g2, g3⟩ := addAll_some h1 h2 (resF_ok hv) hu
  exact ⟨g1, g2, fun x => by rw [g3, h3]; rfl⟩
end Go.Sim
