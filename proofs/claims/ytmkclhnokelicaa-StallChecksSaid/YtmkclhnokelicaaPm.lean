/- Other wishes, more room: what follows from the blocking lemma (plain). -/
import Derived.Test.YtmkclhnokelicaaPa
set_option linter.all false
set_option linter.unusedVariables false
set_option linter.unusedSimpArgs false
set_option linter.unusedSectionVars false
namespace Go.Market
theorem pl_congr {M N : Mkt} {H : Hold} {a : Nat} (hm : M.m = N.m) (hr : ∀ s, M.rk a s = N.rk a s) (hw : M.wl a = N.wl a) : pl M H a = pl N H a := by
  unfold pl
  rw [hm, hw]
  cases (List.range N.m).find? fun s => H s == some a with
  | none => rfl
  | some s => exact hr s
/-- N: the market in which one applicant tells other wishes, some of its own in another order -/
structure ToldM (M N : Mkt) (w : Nat) : Prop where
  n : N.n = M.n
  m : N.m = M.m
  rk : ∀ a s, a ≠ w → N.rk a s = M.rk a s
  wl : ∀ a, a ≠ w → N.wl a = M.wl a
  can : ∀ a s, a ≠ w → (N.can a s ↔ M.can a s)
  sub : ∀ s, N.can w s → M.can w s
  ah : ∀ s a b, N.can a s → N.can b s → (N.ah s a b ↔ M.ah s a b)
theorem truth {M N : Mkt} {w : Nat} (hM : M.Ok) (t : ToldM M N w) (hw : w < M.n) {H K : Hold} (hH : Best M H) (hK : Stable N K) : pl M H w ≤ pl M K w := by
  have hcan : ∀ a s, N.can a s → M.can a s := fun a s h => by
    by_cases e : a = w
    · subst e; exact t.sub s h
    · exact (t.can a s e).1 h
  have hv : Valid M K := ⟨fun s a h => by
    obtain ⟨h1, h2, h3⟩ := hK.valid.ok s a h
    exact ⟨by rw [← t.m]; exact h1, by rw [← t.n]; exact h2, hcan a s h3⟩, hK.valid.one⟩
  refine Nat.le_of_not_lt fun hlt => ?_
  obtain ⟨b, s, c, hb, h1, h2, h3⟩ := blocking hM hH hv hw hlt
  have hbw : b ≠ w := fun e => by subst e; omega
  refine hK.none b s ⟨by rw [t.n]; exact hb.ha, by rw [t.m]; exact hb.hs, (t.can b s hbw).2 hb.can, ?_, fun d hd => ?_⟩
  · rw [t.rk b s hbw, pl_congr (M := N) (N := M) t.m (fun s => t.rk b s hbw) (t.wl b hbw)]
    exact hb.more
  · exact (t.ah s b d ((t.can b s hbw).2 hb.can) (hK.valid.ok s d hd).2.2).2 (hb.ah d hd)
/-- N: the market with a stall more, behind all others -/
structure More (M N : Mkt) : Prop where
  n : N.n = M.n
  m : N.m = M.m + 1
  can : ∀ a s, a < M.n → s < M.m → (N.can a s ↔ M.can a s)
  rk : ∀ a s t, a < M.n → s < M.m → t < M.m → M.can a s → M.can a t → N.rk a s < N.rk a t → M.rk a s < M.rk a t
  ah : ∀ s a b, s < M.m → a < M.n → b < M.n → M.can a s → M.can b s → (N.ah s a b ↔ M.ah s a b)
theorem room {M N : Mkt} (hM : M.Ok) (hN : N.Ok) (t : More M N) {H K : Hold} (hH : Stable M H) (hK : Best N K) : Valid N H ∧ ∀ a, a < M.n → pl N K a ≤ pl N H a := by
  have hv : Valid N H := ⟨fun s a h => by
    obtain ⟨h1, h2, h3⟩ := hH.valid.ok s a h
    exact ⟨by rw [t.m]; omega, by rw [t.n]; exact h2, (t.can a s h2 h1).2 h3⟩, hH.valid.one⟩
  refine ⟨hv, fun a ha => Nat.le_of_not_lt fun hlt => ?_⟩
  obtain ⟨b, s, c, hb, h1, h2, h3⟩ := blocking hN hK hv (by rw [t.n]; exact ha) hlt
  obtain ⟨s1, c1, cc⟩ := hH.valid.ok s c h2
  have hbn : b < M.n := by rw [← t.n]; exact hb.ha
  have hbc := (t.can b s hbn s1).1 hb.can
  refine hH.none b s ⟨hbn, s1, hbc, ?_, fun d hd => ?_⟩
  · by_cases hx : ∃ u, H u = some b
    · obtain ⟨u, hu⟩ := hx
      obtain ⟨u1, _, u3⟩ := hH.valid.ok u b hu
      rw [pl_some hH.valid hu]
      have := hb.more
      rw [pl_some hv hu] at this
      exact t.rk b s u hbn s1 u1 hbc u3 this
    · rw [pl_none fun u hu => hx ⟨u, hu⟩]
      exact hM.lt b s hbn s1 hbc
  · obtain ⟨_, d2, d3⟩ := hH.valid.ok s d hd
    exact (t.ah s b d s1 hbn d2 hbc d3).1 (hb.ah d hd)
/-- N: the market in which one applicant has no wishes -/
structure Gone (M N : Mkt) (w : Nat) : Prop where
  n : N.n = M.n
  m : N.m = M.m
  rk : ∀ a s, a ≠ w → N.rk a s = M.rk a s
  wl : ∀ a, a ≠ w → N.wl a = M.wl a
  can : ∀ a s, a ≠ w → (N.can a s ↔ M.can a s)
  no : ∀ s, ¬ N.can w s
  ah : ∀ s a b, a ≠ w → b ≠ w → N.can a s → N.can b s → (N.ah s a b ↔ M.ah s a b)
theorem gone {M N : Mkt} {w : Nat} (hN : N.Ok) (t : Gone M N w) {H K : Hold} (hH : Stable M H) (hK : Best N K) {a : Nat} (ha : a < M.n) (haw : a ≠ w) : pl M K a ≤ pl M H a := by
  let G : Hold := fun s => if H s = some w then none else H s
  have hG : ∀ s b, G s = some b ↔ (H s = some b ∧ b ≠ w) := fun s b => by
    show (if H s = some w then none else H s) = some b ↔ _
    by_cases e : H s = some w
    · rw [if_pos e, e]
      constructor
      · intro h; cases h
      · rintro ⟨h1, h2⟩; cases h1; exact absurd rfl h2
    · rw [if_neg e]
      exact ⟨fun h => ⟨h, fun e' => e (e' ▸ h)⟩, fun h => h.1⟩
  have hv : Valid N G := ⟨fun s b h => by
    obtain ⟨h0, hbw⟩ := (hG s b).1 h
    obtain ⟨h1, h2, h3⟩ := hH.valid.ok s b h0
    exact ⟨by rw [t.m]; exact h1, by rw [t.n]; exact h2, (t.can b s hbw).2 h3⟩, fun s u b h1 h2 => hH.valid.one s u b ((hG s b).1 h1).1 ((hG u b).1 h2).1⟩
  have hp : ∀ b, b ≠ w → pl N G b = pl M H b := fun b hb => by
    by_cases hx : ∃ u, H u = some b
    · obtain ⟨u, hu⟩ := hx
      rw [pl_some hv ((hG u b).2 ⟨hu, hb⟩), pl_some hH.valid hu, t.rk b u hb]
    · rw [pl_none fun u hu => hx ⟨u, ((hG u b).1 hu).1⟩, pl_none fun u hu => hx ⟨u, hu⟩, t.wl b hb]
  rw [← pl_congr (M := N) (N := M) t.m (fun s => t.rk a s haw) (t.wl a haw), ← hp a haw]
  refine Nat.le_of_not_lt fun hlt => ?_
  obtain ⟨b, s, c, hb, h1, h2, h3⟩ := blocking hN hK hv (by rw [t.n]; exact ha) hlt
  obtain ⟨hc, hcw⟩ := (hG s c).1 h2
  have hbw : b ≠ w := fun e => t.no s (e ▸ hb.can)
  refine hH.none b s ⟨by rw [← t.n]; exact hb.ha, by rw [← t.m]; exact hb.hs, (t.can b s hbw).1 hb.can, ?_, fun d hd => ?_⟩
  · have := hb.more
    rwa [t.rk b s hbw, hp b hbw] at this
  · rw [hc] at hd; cases hd
    have h4 := (hv.ok s c h2).2.2
    exact (t.ah s b c hbw hcw hb.can h4).1 (hb.ah c h2)
#print axioms truth
#print axioms room
#print axioms gone
end Go.Market
