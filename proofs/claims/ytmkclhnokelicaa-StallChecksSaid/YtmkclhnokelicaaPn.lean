/- Other wishes, a stall more, an applicant less: lettings (plain). -/
import Derived.Test.YtmkclhnokelicaaPm
import Derived.Test.YtmkclhnokelicaaPf
import Derived.Test.YtmkclhnokelicaaPk
set_option linter.all false
set_option linter.unusedVariables false
set_option linter.unusedSimpArgs false
set_option linter.unusedSectionVars false
namespace Go.Sim
open Go.Market
theorem tokS_congr : ∀ {A B : List App}, A.map App.token = B.map App.token → tokS A = tokS B
  | [], [], _ => rfl
  | [], _ :: _, h => by simp at h
  | _ :: _, [], h => by simp at h
  | a :: A, b :: B, h => by
    simp only [List.map_cons, List.cons.injEq] at h
    simp only [tokS, h.1, tokS_congr h.2]
theorem drawL_congr {A B : List App} (h : A.map App.token = B.map App.token) : drawL A = drawL B := by
  have hl : A.length = B.length := by simpa using congrArg List.length h
  rw [drawL, drawL, hl, tokS_congr h]
theorem aheadB_congr {l l' : Lett} {s a b : Nat} (hs : nth l'.stalls s = nth l.stalls s) (ht : l'.apps.map App.token = l.apps.map App.token) (ya : (nth l'.apps a).years = (nth l.apps a).years) (yb : (nth l'.apps b).years = (nth l.apps b).years)
    (ba : bidA (nth l'.apps a) s = bidA (nth l.apps a) s) (bb : bidA (nth l'.apps b) s = bidA (nth l.apps b) s) : aheadB l' s a b = aheadB l s a b := by
  unfold aheadB posD
  rw [hs, drawL_congr ht, ya, yb, ba, bb]
theorem nth_map' {α β : Type} [NthD α] [NthD β] {f : α → β} {l : List α} {i : Nat} (h : i < l.length) : nth (l.map f) i = f l[i] := by
  rw [nth_get (by simpa using h), List.getElem_map]
/-- an applicant that tells some of its wishes -/
def pickA (a : App) (ix : List Nat) : App := { a with wishes := ix.map (nth a.wishes), bids := ix.map (nth a.bids) }
def toldL (l : Lett) (w : Nat) (ix : List Nat) : Lett := ⟨l.stalls, l.apps.set w (pickA (nth l.apps w) ix)⟩
theorem pick_nodup {a : App} (hn : a.wishes.Nodup) {ix : List Nat} (hd : ix.Nodup) (hl : ∀ i ∈ ix, i < a.wishes.length) : (pickA a ix).wishes.Nodup :=
  nodup_map hd fun x hx y hy e => by
    have h1 := hl x hx
    have h2 := hl y hy
    rw [nth_get h1, nth_get h2] at e
    have e1 := hn.idxOf_getElem x h1
    have e2 := hn.idxOf_getElem y h2
    rw [← e1, ← e2, e]
theorem pick_idx {a : App} (hn : a.wishes.Nodup) {ix : List Nat} (hd : ix.Nodup) (hl : ∀ i ∈ ix, i < a.wishes.length) {s : Int} (hs : s ∈ (pickA a ix).wishes) :
    ∃ j, ∃ hj : j < ix.length, (pickA a ix).wishes.idxOf s = j ∧ a.wishes.idxOf s = ix[j] ∧ nth a.wishes ix[j] = s ∧ s ∈ a.wishes := by
  obtain ⟨j, hj, he⟩ := List.getElem_of_mem hs
  have hj' : j < ix.length := by simpa [pickA] using hj
  have hi := hl _ (List.getElem_mem hj')
  have e : nth a.wishes ix[j] = s := by rw [← he]; simp [pickA]
  refine ⟨j, hj', ?_, ?_, e, ?_⟩
  · rw [← he]; exact (pick_nodup hn hd hl).idxOf_getElem j hj
  · rw [← e, nth_get hi]; exact hn.idxOf_getElem _ hi
  · rw [← e, nth_get hi]; exact List.getElem_mem hi
theorem pick_can {st : List Stl} {a : App} (hn : a.wishes.Nodup) {ix : List Nat} (hd : ix.Nodup) (hl : ∀ i ∈ ix, i < a.wishes.length) {s : Int} (hc : canS st (pickA a ix) s = true) : canS st a s = true ∧ bidA (pickA a ix) s = bidA a s := by
  obtain ⟨j, hj, h1, h2, h3, h4⟩ := pick_idx hn hd hl (canS_mem hc)
  have e1 : nth (pickA a ix).wishes j = nth a.wishes ix[j] := nth_map' hj
  have e2 : nth (pickA a ix).bids j = nth a.bids ix[j] := nth_map' hj
  refine ⟨?_, by rw [bidA, bidA, h1, h2, e2]⟩
  unfold canS at hc ⊢
  rw [h1] at hc
  rw [h2, decide_eq_true h4, Bool.true_and]
  rw [Bool.and_eq_true] at hc
  have := hc.2
  unfold canAt at this ⊢
  rwa [e1, e2] at this
theorem told_tok {l : Lett} {w : Nat} (hw : w < l.apps.length) {x : App} (hx : x.token = (nth l.apps w).token) : (l.apps.set w x).map App.token = l.apps.map App.token := by
  rw [List.map_set, hx, nth_get hw]
  have : l.apps[w].token = (l.apps.map App.token)[w]'(by simpa using hw) := by simp
  rw [this, List.set_getElem_self]
theorem told_same {l : Lett} {w : Nat} (hw : w < l.apps.length) {x : App} : nth (l.apps.set w x) w = x := nth_set_same hw
theorem told_valid {l : Lett} (hv : ValidL l) {w : Nat} (hw : w < l.apps.length) {ix : List Nat} (hd : ix.Nodup) (hl : ∀ i ∈ ix, i < (nth l.apps w).wishes.length) : ValidL (toldL l w ix) := by
  refine ⟨hv.s0, hv.s8, fun s hs => by simpa [toldL] using hv.st s hs, by simpa [toldL] using hv.a8, fun a ha => ?_⟩
  rcases List.mem_or_eq_of_mem_set ha with q | rfl
  · exact hv.ap a q
  · have k := hv.ap _ (List.getElem_mem hw)
    rw [← nth_get hw] at k
    refine ⟨k.years, k.token, fun v hv => ?_, pick_nodup k.nodup hd hl, by simp [pickA], fun b hb => ?_⟩
    · obtain ⟨i, hi, rfl⟩ := List.mem_map.1 hv
      rw [nth_get (hl i hi)]
      exact k.wish _ (List.getElem_mem _)
    · obtain ⟨i, hi, rfl⟩ := List.mem_map.1 hb
      have := hl i hi
      rw [nth_get (by rw [k.len]; exact this)]
      exact k.bid _ (List.getElem_mem _)
theorem told_mkt {l : Lett} (hv : ValidL l) {w : Nat} (hw : w < l.apps.length) {ix : List Nat} (hd : ix.Nodup) (hl : ∀ i ∈ ix, i < (nth l.apps w).wishes.length) : ToldM (mktL l) (mktL (toldL l w ix)) w := by
  have k := (hv.ap _ (List.getElem_mem hw)).nodup
  rw [← nth_get hw] at k
  have ho : ∀ a, a ≠ w → nth (toldL l w ix).apps a = nth l.apps a := fun a ha => nth_set_other ha
  have hs : nth (toldL l w ix).apps w = pickA (nth l.apps w) ix := nth_set_same hw
  have hy : ∀ a, (nth (toldL l w ix).apps a).years = (nth l.apps a).years := fun a => by
    by_cases e : a = w
    · subst e; rw [hs]; rfl
    · rw [ho a e]
  have hb : ∀ a (s : Nat), canS l.stalls (nth (toldL l w ix).apps a) s = true → bidA (nth (toldL l w ix).apps a) s = bidA (nth l.apps a) s := fun a s h => by
    by_cases e : a = w
    · subst e; rw [hs] at h ⊢; exact (pick_can k hd hl h).2
    · rw [ho a e]
  refine ⟨by simp [mktL, toldL], rfl, fun a s ha => ?_, fun a ha => ?_, fun a s ha => ?_, fun s h => ?_, fun s a b h1 h2 => ?_⟩
  · show (nth (toldL l w ix).apps a).wishes.idxOf (s : Int) = _
    rw [ho a ha]; rfl
  · show (nth (toldL l w ix).apps a).wishes.length = _
    rw [ho a ha]; rfl
  · show canS l.stalls (nth (toldL l w ix).apps a) s = true ↔ _
    rw [ho a ha]; rfl
  · have h : canS l.stalls (nth (toldL l w ix).apps w) s = true := h
    rw [hs] at h
    exact (pick_can k hd hl h).1
  · show a ≠ b ∧ aheadB (toldL l w ix) s a b = true ↔ a ≠ b ∧ aheadB l s a b = true
    rw [aheadB_congr (l := l) (l' := toldL l w ix) rfl (told_tok hw rfl) (hy a) (hy b) (hb a s h1) (hb b s h2)]
theorem HoldOk.sub {l l' : Lett} (hn : l'.apps.length = l.apps.length) (hm : l'.stalls.length = l.stalls.length) (hc : ∀ a (s : Nat), canS l'.stalls (nth l'.apps a) s = true → canS l.stalls (nth l.apps a) s = true) {h : List Int} (k : HoldOk l' h) : HoldOk l h :=
  ⟨by rw [k.len, hm], fun s hs => (k.ok s hs).imp id fun ⟨a, q1, q2, q3⟩ => ⟨a, q1, by omega, hc a s q3⟩, k.one⟩
/-- it does not pay to tell other wishes -/
theorem truthL {l : Lett} (hv : ValidL l) {w : Nat} (hw : w < l.apps.length) {ix : List Nat} (hd : ix.Nodup) (hl : ∀ i ∈ ix, i < (nth l.apps w).wishes.length) {x y : List Int} (hx : BestL l x) (hy : BestL (toldL l w ix) y) : placeL l x w ≤ placeL l y w := by
  have t := told_mkt hv hw hd hl
  have hyl : HoldOk l y := HoldOk.sub (l := l) (l' := toldL l w ix) (by simp [toldL]) rfl (fun a s h => by
    by_cases e : a = w
    · subst e; exact t.sub s h
    · exact (t.can a s e).1 h) hy.hold
  rw [placeL_eq hx.hold, placeL_eq hyl]
  exact truth (mkt_ok hv) t hw hx.best hy.best.st
/-! an applicant less -/
def goneL (l : Lett) (w : Nat) : Lett := ⟨l.stalls, l.apps.set w { nth l.apps w with wishes := [], bids := [] }⟩
theorem gone_told {l : Lett} {w : Nat} : goneL l w = toldL l w [] := rfl
theorem goneL_le {l : Lett} (hv : ValidL l) {w : Nat} (hw : w < l.apps.length) {x z : List Int} (hx : BestL l x) (hz : BestL (goneL l w) z) {a : Nat} (ha : a < l.apps.length) (haw : a ≠ w) : placeL l z a ≤ placeL l x a := by
  have hd : ([] : List Nat).Nodup := List.nodup_nil
  have hl : ∀ i ∈ ([] : List Nat), i < (nth l.apps w).wishes.length := by simp
  rw [gone_told] at hz
  have t := told_mkt hv hw hd hl
  have hno : ∀ s, ¬ (mktL (toldL l w [])).can w s := fun s h => by
    have h : canS l.stalls (nth (toldL l w []).apps w) s = true := h
    rw [show nth (toldL l w []).apps w = pickA (nth l.apps w) [] from nth_set_same hw] at h
    have := canS_mem h
    simp [pickA] at this
  have g : Gone (mktL l) (mktL (toldL l w [])) w := ⟨t.n, t.m, t.rk, t.wl, t.can, hno, fun s a b _ _ h1 h2 => t.ah s a b h1 h2⟩
  have hzl : HoldOk l z := HoldOk.sub (l := l) (l' := toldL l w []) (by simp [toldL]) rfl (fun a s h => by
    by_cases e : a = w
    · subst e; exact t.sub s h
    · exact (t.can a s e).1 h) hz.hold
  rw [placeL_eq hx.hold, placeL_eq hzl]
  exact gone (mkt_ok (told_valid hv hw hd hl)) g hx.best.st hz.best ha haw
/-! all fair holders -/
theorem rank_none {l : Lett} {h : List Int} (k : HoldOk l h) {a : Nat} : placeL l h a = (nth l.apps a).wishes.length ↔ (a : Int) ∉ h := by
  unfold placeL
  by_cases hm : (a : Int) ∈ h
  · rw [if_pos hm]
    obtain ⟨s, hs⟩ := mem_holdL.1 hm
    obtain ⟨h1, h2⟩ := holdL_some.1 hs
    have h3 := List.idxOf_lt_length_iff.2 hm
    have h4 := List.getElem_idxOf h3
    have := (k.valid.ok _ a (holdL_some.2 ⟨h3, h4⟩)).2.2
    have := canS_lt (st := l.stalls) (a := nth l.apps a) this
    constructor
    · intro e; omega
    · intro e; exact absurd hm e
  · rw [if_neg hm]; exact ⟨fun _ => hm, fun _ => rfl⟩
theorem fair_all {l : Lett} (hv : ValidL l) {x h : List Int} (hx : BestL l x) (k : HoldOk l h) (he : envL l h = []) :
    (∀ a, a < l.apps.length → placeL l x a ≤ placeL l h a ∧ (placeL l x a = (nth l.apps a).wishes.length ↔ placeL l h a = (nth l.apps a).wishes.length)) ∧
    ∀ s, ∀ h1 : s < x.length, ∀ h2 : s < h.length, (x[s] < 0 ↔ h[s] < 0) := by
  have hS := (envL_nil k).1 he
  obtain ⟨r1, r2⟩ := rural (mkt_ok hv) hx.best hS
  refine ⟨fun a ha => ⟨by rw [placeL_eq hx.hold, placeL_eq k]; exact hx.best.best _ hS a ha, ?_⟩, fun s h1 h2 => ?_⟩
  · rw [rank_none hx.hold, rank_none k, mem_holdL, mem_holdL, r2 a]
  · have e1 : x[s] < 0 ↔ ¬ ∃ a, holdL x s = some a := by
      constructor
      · rintro q ⟨a, ha⟩
        obtain ⟨_, e⟩ := holdL_some.1 ha
        omega
      · intro q
        refine Int.not_le.1 fun hle => q ⟨x[s].toNat, holdL_some.2 ⟨h1, by omega⟩⟩
    have e2 : h[s] < 0 ↔ ¬ ∃ a, holdL h s = some a := by
      constructor
      · rintro q ⟨a, ha⟩
        obtain ⟨_, e⟩ := holdL_some.1 ha
        omega
      · intro q
        refine Int.not_le.1 fun hle => q ⟨h[s].toNat, holdL_some.2 ⟨h2, by omega⟩⟩
    rw [e1, e2, r1 s]
#print axioms truthL
#print axioms goneL_le
#print axioms fair_all
end Go.Sim
