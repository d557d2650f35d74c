/- How the program lets one applicant ask (plain). -/
import Derived.Test.YtamcckgclidgkaaDoorPc
set_option linter.all false
set_option linter.unusedVariables false
set_option linter.unusedSimpArgs false
set_option linter.unusedSectionVars false
namespace Go.Sim
open Go.Market
theorem wishL_lt {st : List Stl} {a : App} {j k : Nat} (hjk : j < k) (hk : k < (wishL st a).length) : (wishL st a)[j].1 < (wishL st a)[k].1 := by
  have hp : (wishL st a).Pairwise fun x y => x.1 < y.1 := by
    rw [wishL, List.pairwise_map]
    exact List.Pairwise.filter _ List.pairwise_lt_range
  exact List.pairwise_iff_getElem.1 hp j k (by omega) hk hjk
theorem wishL_at {n : Nat} {st : List Stl} {a : App} (hok : AppOk n a) {k : Nat} (hk : k < (wishL st a).length) : ∃ w : Nat, w < n ∧ (wishL st a)[k].2 = (w : Int) ∧ canS st a (w : Int) = true ∧ a.wishes.idxOf (w : Int) = (wishL st a)[k].1 := by
  obtain ⟨i, hi, h1, h2⟩ := wishL_mem hk
  have hw := hok.wish _ (List.getElem_mem hi)
  refine ⟨a.wishes[i].toNat, by omega, by rw [h2]; simp only; omega, ?_, ?_⟩
  · rw [show ((a.wishes[i].toNat : Nat) : Int) = a.wishes[i] by omega, canS, idxOf_nodup hok.nodup hi, h1]; simp
  · rw [show ((a.wishes[i].toNat : Nat) : Int) = a.wishes[i] by omega, idxOf_nodup hok.nodup hi, h2]
theorem wishL_all {st : List Stl} {a : App} {s : Int} (h : canS st a s = true) : ∃ k, ∃ h' : k < (wishL st a).length, (wishL st a)[k].1 = a.wishes.idxOf s := by
  have h1 := canS_lt h
  simp only [canS, Bool.and_eq_true, decide_eq_true_eq] at h
  obtain ⟨h2, h3⟩ := wishL_get h1 h.2 rfl
  exact ⟨_, h2, by rw [h3]⟩
/-- the pointer after so many wishes -/
def vK (n0 : Nat) (W : List (Nat × Int)) (k : Nat) : Nat := if k = 0 then n0 else max n0 ((nth W (k - 1)).1 + 1)
theorem vK_succ {n0 : Nat} {W : List (Nat × Int)} {k : Nat} (hk : k < W.length) : vK n0 W (k + 1) = max n0 (W[k].1 + 1) := by
  rw [vK, if_neg (by omega), Nat.add_sub_cancel, nth_get hk]
/-- is a wish the one that is kept -/
def stopL (l : Lett) (h : List Int) (n0 a k : Nat) : Bool :=
  decide (vK n0 (wishL l.stalls (nth l.apps a)) k ≤ (nth (wishL l.stalls (nth l.apps a)) k).1) &&
    !(decide (0 ≤ nth h (nth (wishL l.stalls (nth l.apps a)) k).2.toNat) && decide (cmpL l (nth (wishL l.stalls (nth l.apps a)) k).2.toNat (nth h (nth (wishL l.stalls (nth l.apps a)) k).2.toNat).toNat a < 0))
theorem set_self {l : List Int} {i : Nat} (h : i < l.length) (h0 : 0 ≤ nth l i) : l.set i (((nth l i).toNat : Nat) : Int) = l := by
  rw [nth_get h] at h0 ⊢
  rw [show ((l[i].toNat : Nat) : Int) = l[i] by omega, List.set_getElem_self]
theorem vK_lt {l : Lett} {a n0 k : Nat} (hk : k < (wishL l.stalls (nth l.apps a)).length) (h : (wishL l.stalls (nth l.apps a))[k].1 < vK n0 (wishL l.stalls (nth l.apps a)) k) : vK n0 (wishL l.stalls (nth l.apps a)) (k + 1) = vK n0 (wishL l.stalls (nth l.apps a)) k := by
  rw [vK_succ hk]
  cases k with
  | zero => simp only [vK, if_true] at h ⊢; omega
  | succ j =>
    rw [vK_succ (by omega)] at h ⊢
    have := wishL_lt (st := l.stalls) (a := nth l.apps a) (j := j) (k := j + 1) (by omega) hk
    omega
theorem vK_ge {l : Lett} {a n0 k : Nat} (hk : k < (wishL l.stalls (nth l.apps a)).length) (h : vK n0 (wishL l.stalls (nth l.apps a)) k ≤ (wishL l.stalls (nth l.apps a))[k].1) : vK n0 (wishL l.stalls (nth l.apps a)) (k + 1) = (wishL l.stalls (nth l.apps a))[k].1 + 1 := by
  rw [vK_succ hk]
  cases k with
  | zero => simp only [vK, if_true] at h; omega
  | succ j =>
    rw [vK_succ (by omega)] at h
    omega
section
variable {l : Lett} (hv : ValidL l) {h nx fr : List Int} {a : Nat}
include hv
theorem nth_app (ha : a < l.apps.length) : AppOk l.stalls.length (nth l.apps a) := by rw [nth_get ha]; exact hv.ap _ (List.getElem_mem ha)
/-- before a wish that is asked for: nothing that can be had is left out -/
theorem Asking.upto (k0 : Asking l h nx fr) (ha : (a : Int) ∈ fr) {k : Nat} (hk : k < (wishL l.stalls (nth l.apps a)).length) {n0 : Nat} (hn : (nth nx a).toNat = vK n0 (wishL l.stalls (nth l.apps a)) k) : Asking l h (nx.set a ((wishL l.stalls (nth l.apps a))[k].1 : Nat)) fr := by
  obtain ⟨i, hi, _, h2⟩ := wishL_mem hk
  refine k0.raise ha (by rw [h2]; simp only; omega) fun s hs hc hle => ?_
  obtain ⟨j, hj, e⟩ := wishL_all hc
  rw [← e] at hle ⊢
  rcases Nat.lt_trichotomy j k with q | q | q
  · exfalso
    rw [hn] at hle
    obtain ⟨k', rfl⟩ : ∃ k', k = k' + 1 := ⟨k - 1, by omega⟩
    rw [vK_succ (by omega)] at hle
    by_cases hjk : j = k'
    · subst hjk; omega
    · have := wishL_lt (st := l.stalls) (a := nth l.apps a) (j := j) (k := k') (by omega) (by omega)
      omega
  · subst q; exact Nat.le_refl _
  · exact Nat.le_of_lt (wishL_lt q hj)
theorem Asking.rounds (k0 : Asking l h nx fr) (ha : (a : Int) ∈ fr) : ∀ k, k ≤ (wishL l.stalls (nth l.apps a)).length → (∀ j, j < k → stopL l h (nth nx a).toNat a j = false) → Asking l h (nx.set a (vK (nth nx a).toNat (wishL l.stalls (nth l.apps a)) k : Nat)) fr
  | 0, _, _ => by
    have hal := (k0.free ha).1
    rw [show vK (nth nx a).toNat (wishL l.stalls (nth l.apps a)) 0 = (nth nx a).toNat from rfl, set_self (by rw [k0.nl]; exact hal) (k0.nr a hal).1]
    exact k0
  | k + 1, hk, hs => by
    have ih := Asking.rounds k0 ha k (by omega) fun j hj => hs j (by omega)
    have hal := (k0.free ha).1
    have hanx : a < nx.length := by rw [k0.nl]; exact hal
    have hkl : k < (wishL l.stalls (nth l.apps a)).length := by omega
    by_cases hlt : (wishL l.stalls (nth l.apps a))[k].1 < vK (nth nx a).toNat (wishL l.stalls (nth l.apps a)) k
    · rw [vK_lt hkl hlt]; exact ih
    · have hge : vK (nth nx a).toNat (wishL l.stalls (nth l.apps a)) k ≤ (wishL l.stalls (nth l.apps a))[k].1 := by omega
      rw [vK_ge hkl hge]
      obtain ⟨w, w1, w2, w3, w4⟩ := wishL_at (nth_app hv hal) hkl
      have hst := hs k (by omega)
      rw [stopL, nth_get hkl, decide_eq_true hge, Bool.true_and, w2, Int.toNat_natCast] at hst
      simp only [Bool.not_eq_false', Bool.and_eq_true, decide_eq_true_eq] at hst
      obtain ⟨q1, q2⟩ := hst
      have hwl : w < h.length := by rw [k0.hl]; exact w1
      have hb : holdL h w = some (nth h w).toNat := holdL_some.2 ⟨hwl, by rw [nth_get hwl] at q1 ⊢; omega⟩
      have hne : (nth h w).toNat ≠ a := fun e => (k0.free ha).2.2 w (by rw [hb, e])
      have hup := ih.upto hv ha hkl (n0 := (nth nx a).toNat) (by rw [nth_set_same hanx]; rfl)
      rw [List.set_set] at hup
      have hre := hup.refuse hv ha w1 w3 (by rw [nth_set_same hanx, w4]; rfl) hb (by rw [← cmpL_ahead hne]; exact decide_eq_true q2)
      rw [List.set_set, w4] at hre
      exact hre
end
end Go.Sim
