/- A stall more: lettings (plain). -/
import Derived.Test.YtmkclhnokelicaaPn
set_option linter.all false
set_option linter.unusedVariables false
set_option linter.unusedSimpArgs false
set_option linter.unusedSectionVars false
namespace Go.Sim
open Go.Market
theorem nth_appL {α : Type} [NthD α] {P Q : List α} {i : Nat} (h : i < P.length) : nth (P ++ Q) i = nth P i := by
  simp [nth, List.getD_eq_getElem?_getD, List.getElem?_append_left h]
theorem nth_appR {α : Type} [NthD α] {P Q : List α} {j : Nat} : nth (P ++ Q) (j + P.length) = nth Q j := by
  simp [nth, List.getD_eq_getElem?_getD, List.getElem?_append_right (show P.length ≤ j + P.length by omega)]
theorem nth_tail {α : Type} [NthD α] {Q : List α} {v : α} {j : Nat} : nth (v :: Q) (j + 1) = nth Q j := by
  simp [nth, List.getD_eq_getElem?_getD]
theorem canS_bid (st : List Stl) (a : App) (s : Int) : canS st a s = (decide (s ∈ a.wishes) && !(decide ((nth st s.toNat).rule = 3) && decide (bidA a s < (nth st s.toNat).least))) := by
  by_cases h : s ∈ a.wishes
  · unfold canS canAt bidA
    have e : nth a.wishes (a.wishes.idxOf s) = s := by
      have h1 := List.idxOf_lt_length_iff.2 h
      rw [nth_get h1]; exact List.getElem_idxOf h1
    rw [e]
  · unfold canS; rw [decide_eq_false h]; rfl
def insA (n : Int) (x : App) (k : Nat) (v : Int) : App := { x with wishes := x.wishes.take k ++ n :: x.wishes.drop k, bids := x.bids.take k ++ v :: x.bids.drop k }
def InsR (n : Int) (x y : App) : Prop := y = x ∨ ∃ k v, k ≤ x.wishes.length ∧ (0 ≤ v ∧ v ≤ 1000000) ∧ y = insA n x k v
theorem idx_app (A B : List Int) (s : Int) : (A ++ B).idxOf s = if s ∈ A then A.idxOf s else B.idxOf s + A.length := List.idxOf_append
theorem idx_ins {A B : List Int} {n s : Int} (hs : s ≠ n) : (A ++ n :: B).idxOf s = if s ∈ A then A.idxOf s else B.idxOf s + 1 + A.length := by
  rw [idx_app]
  split
  · rfl
  · rw [List.idxOf_cons]; simp [beq_eq_false_iff_ne.2 (Ne.symm hs)]
theorem bid_ins {A B P Q : List Int} (h : A.length = P.length) {n v s : Int} (hs : s ≠ n) : nth (P ++ v :: Q) ((A ++ n :: B).idxOf s) = nth (P ++ Q) ((A ++ B).idxOf s) := by
  rw [idx_ins hs, idx_app]
  by_cases hm : s ∈ A
  · rw [if_pos hm, if_pos hm]
    have := List.idxOf_lt_length_iff.2 hm
    rw [nth_appL (by omega), nth_appL (by omega)]
  · rw [if_neg hm, if_neg hm, h, nth_appR, nth_appR, nth_tail]
theorem ins_bid {n : Int} {x : App} {k : Nat} {v : Int} (hk : k ≤ x.wishes.length) (hl : x.bids.length = x.wishes.length) {s : Int} (hs : s ≠ n) : bidA (insA n x k v) s = bidA x s := by
  have l1 : (x.wishes.take k).length = (x.bids.take k).length := by rw [List.length_take, List.length_take]; omega
  have := bid_ins (B := x.wishes.drop k) (Q := x.bids.drop k) (v := v) l1 hs
  rw [List.take_append_drop, List.take_append_drop] at this
  exact this
theorem ins_mem {n : Int} {x : App} {k : Nat} {v s : Int} : s ∈ (insA n x k v).wishes ↔ s = n ∨ s ∈ x.wishes := by
  show s ∈ x.wishes.take k ++ n :: x.wishes.drop k ↔ _
  have : s ∈ x.wishes ↔ s ∈ x.wishes.take k ∨ s ∈ x.wishes.drop k := by rw [← List.mem_append, List.take_append_drop]
  rw [this]; simp only [List.mem_append, List.mem_cons]
  constructor
  · rintro (h | h | h) <;> simp [h]
  · rintro (h | h | h) <;> simp [h]
theorem lt_ins {A B : List Int} {n s t : Int} (hs : s ≠ n) (ht : t ≠ n) (h : (A ++ n :: B).idxOf s < (A ++ n :: B).idxOf t) : (A ++ B).idxOf s < (A ++ B).idxOf t := by
  rw [idx_ins hs, idx_ins ht] at h
  rw [idx_app, idx_app]
  by_cases h1 : s ∈ A <;> by_cases h2 : t ∈ A
  · rw [if_pos h1, if_pos h2] at h ⊢; exact h
  · rw [if_pos h1, if_neg h2] at h ⊢
    have := List.idxOf_lt_length_iff.2 h1; omega
  · rw [if_neg h1, if_pos h2] at h
    have := List.idxOf_lt_length_iff.2 h2; omega
  · rw [if_neg h1, if_neg h2] at h ⊢; omega
theorem ins_lt {n : Int} {x : App} {k : Nat} {v : Int} {s t : Int} (hs : s ≠ n) (ht : t ≠ n) (h : (insA n x k v).wishes.idxOf s < (insA n x k v).wishes.idxOf t) : x.wishes.idxOf s < x.wishes.idxOf t := by
  have := lt_ins (A := x.wishes.take k) (B := x.wishes.drop k) hs ht h
  rwa [List.take_append_drop] at this
theorem InsR.bid {n : Nat} {x y : App} (k : AppOk n x) (h : InsR n x y) {s : Int} (hs : s ≠ n) : bidA y s = bidA x s := by
  rcases h with rfl | ⟨i, v, h1, _, rfl⟩
  · rfl
  · exact ins_bid h1 k.len hs
theorem InsR.mem {n : Nat} {x y : App} (h : InsR n x y) {s : Int} (hs : s ≠ n) : s ∈ y.wishes ↔ s ∈ x.wishes := by
  rcases h with rfl | ⟨i, v, h1, _, rfl⟩
  · exact Iff.rfl
  · rw [ins_mem]; exact ⟨fun h => h.resolve_left hs, .inr⟩
theorem InsR.lt {n : Nat} {x y : App} (h : InsR n x y) {s t : Int} (hs : s ≠ n) (ht : t ≠ n) (hl : y.wishes.idxOf s < y.wishes.idxOf t) : x.wishes.idxOf s < x.wishes.idxOf t := by
  rcases h with rfl | ⟨i, v, h1, _, rfl⟩
  · exact hl
  · exact ins_lt hs ht hl
theorem InsR.years {n : Nat} {x y : App} (h : InsR n x y) : y.years = x.years := by
  rcases h with rfl | ⟨i, v, h1, _, rfl⟩ <;> rfl
theorem InsR.token {n : Nat} {x y : App} (h : InsR n x y) : y.token = x.token := by
  rcases h with rfl | ⟨i, v, h1, _, rfl⟩ <;> rfl
theorem InsR.ok {n : Nat} {x y : App} (k : AppOk n x) (h : InsR n x y) : AppOk (n + 1) y := by
  rcases h with rfl | ⟨i, v, h1, h2, rfl⟩
  · exact ⟨k.years, k.token, fun w hw => by have := k.wish w hw; omega, k.nodup, k.len, k.bid⟩
  · have hn : (n : Int) ∉ x.wishes := fun h => by have := k.wish _ h; omega
    have e1 : x.wishes.take i ++ x.wishes.drop i = x.wishes := List.take_append_drop _ _
    refine ⟨k.years, k.token, fun w hw => ?_, ?_, ?_, fun b hb => ?_⟩
    · rcases ins_mem.1 hw with rfl | q
      · omega
      · have := k.wish w q; omega
    · show (x.wishes.take i ++ (n : Int) :: x.wishes.drop i).Nodup
      have hp : (x.wishes.take i ++ (n : Int) :: x.wishes.drop i).Perm ((n : Int) :: x.wishes) := by
        have := List.perm_middle (a := (n : Int)) (l₁ := x.wishes.take i) (l₂ := x.wishes.drop i)
        rwa [e1] at this
      exact hp.nodup_iff.2 (List.nodup_cons.2 ⟨hn, k.nodup⟩)
    · show (x.bids.take i ++ v :: x.bids.drop i).length = (x.wishes.take i ++ (n : Int) :: x.wishes.drop i).length
      have := k.len
      simp only [List.length_append, List.length_cons, List.length_take, List.length_drop]; omega
    · have hb : b ∈ x.bids.take i ++ v :: x.bids.drop i := hb
      rw [List.mem_append, List.mem_cons] at hb
      rcases hb with q | rfl | q
      · exact k.bid b (List.mem_of_mem_take q)
      · exact h2
      · exact k.bid b (List.mem_of_mem_drop q)
structure MoreR (l m : Lett) : Prop where
  st : ∃ x, StlOk l.apps.length x ∧ m.stalls = l.stalls ++ [x]
  n : m.apps.length = l.apps.length
  ap : ∀ a, a < l.apps.length → InsR l.stalls.length (nth l.apps a) (nth m.apps a)
theorem MoreR.valid {l m : Lett} (hv : ValidL l) (h7 : l.stalls.length ≤ 7) (r : MoreR l m) : ValidL m := by
  obtain ⟨x, h1, h2⟩ := r.st
  refine ⟨by rw [h2]; simp, by rw [h2]; simp; omega, fun s hs => ?_, by rw [r.n]; exact hv.a8, fun a ha => ?_⟩
  · rw [r.n]
    rw [h2, List.mem_append, List.mem_singleton] at hs
    rcases hs with hs | rfl
    · exact hv.st s hs
    · exact h1
  · obtain ⟨i, hi, rfl⟩ := List.getElem_of_mem ha
    have hil : i < l.apps.length := by rw [← r.n]; exact hi
    have := (r.ap i hil).ok (nth_app hv hil)
    rw [nth_get hi] at this
    rw [h2, List.length_append, List.length_singleton]
    exact this
theorem MoreR.tok {l m : Lett} (r : MoreR l m) : m.apps.map App.token = l.apps.map App.token := by
  refine List.ext_getElem (by simpa using r.n) fun i h1 h2 => ?_
  have hi : i < l.apps.length := by simpa using h2
  have hj : i < m.apps.length := by simpa using h1
  have := (r.ap i hi).token
  rw [nth_get hi, nth_get hj] at this
  rw [List.getElem_map, List.getElem_map, this]
theorem MoreR.stall {l m : Lett} (r : MoreR l m) {s : Nat} (hs : s < l.stalls.length) : nth m.stalls s = nth l.stalls s := by
  obtain ⟨x, _, h2⟩ := r.st
  rw [h2, nth_appL hs]
theorem MoreR.can {l m : Lett} (hv : ValidL l) (r : MoreR l m) {a s : Nat} (ha : a < l.apps.length) (hs : s < l.stalls.length) : canS m.stalls (nth m.apps a) (s : Int) = canS l.stalls (nth l.apps a) (s : Int) := by
  have hne : (s : Int) ≠ (l.stalls.length : Nat) := by omega
  have k := nth_app hv ha
  rw [canS_bid, canS_bid, (r.ap a ha).bid k hne, Int.toNat_natCast, r.stall hs]
  congr 1
  rw [decide_eq_decide]
  exact (r.ap a ha).mem hne
theorem MoreR.mkt {l m : Lett} (hv : ValidL l) (r : MoreR l m) : More (mktL l) (mktL m) := by
  obtain ⟨x, _, h2⟩ := r.st
  refine ⟨r.n, ?_, fun a s ha hs => ?_, fun a s t ha hs ht _ _ hl => ?_, fun s a b hs ha hb _ _ => ?_⟩
  · show m.stalls.length = l.stalls.length + 1
    rw [h2]; simp
  · show canS m.stalls (nth m.apps a) s = true ↔ canS l.stalls (nth l.apps a) s = true
    rw [r.can hv ha hs]
  · have hs : s < l.stalls.length := hs
    have ht : t < l.stalls.length := ht
    exact (r.ap a ha).lt (by omega) (by omega) hl
  · have hs : s < l.stalls.length := hs
    have hne : (s : Int) ≠ (l.stalls.length : Nat) := by omega
    show a ≠ b ∧ aheadB m s a b = true ↔ a ≠ b ∧ aheadB l s a b = true
    rw [aheadB_congr (l := l) (l' := m) (r.stall hs) r.tok (r.ap a ha).years (r.ap b hb).years ((r.ap a ha).bid (nth_app hv ha) hne) ((r.ap b hb).bid (nth_app hv hb) hne)]
theorem holdL_app (h : List Int) : holdL (h ++ [-1]) = holdL h := by
  funext s
  cases e : holdL h s with
  | some a =>
    obtain ⟨h1, h2⟩ := holdL_some.1 e
    exact holdL_some.2 ⟨by simp; omega, by rw [List.getElem_append_left h1, h2]⟩
  | none =>
    cases e2 : holdL (h ++ [-1]) s with
    | none => rfl
    | some a =>
      obtain ⟨h1, h2⟩ := holdL_some.1 e2
      rw [List.length_append, List.length_singleton] at h1
      by_cases hs : s < h.length
      · rw [List.getElem_append_left hs] at h2
        rw [holdL_some.2 ⟨hs, h2⟩] at e; cases e
      · rw [List.getElem_append_right (by omega)] at h2
        simp at h2
theorem moreL_le {l m : Lett} (hv : ValidL l) (h7 : l.stalls.length ≤ 7) (r : MoreR l m) {x y : List Int} (hx : BestL l x) (hy : BestL m y) {a : Nat} (ha : a < l.apps.length) : placeL m y a ≤ placeL m (x ++ [-1]) a := by
  have hvm := r.valid hv h7
  obtain ⟨hvx, hle⟩ := room (mkt_ok hv) (mkt_ok hvm) (r.mkt hv) hx.best.st hy.best
  obtain ⟨s0, _, h2⟩ := r.st
  have hk : HoldOk m (x ++ [-1]) := by
    refine ⟨by rw [h2, List.length_append, List.length_append, hx.len]; rfl, fun s hs => ?_, fun s t a hs ht e1 e2 => ?_⟩
    · rw [List.length_append, List.length_singleton] at hs
      by_cases hsx : s < x.length
      · rw [List.getElem_append_left hsx]
        refine (hx.hold.ok s hsx).imp id fun ⟨a, q1, q2, q3⟩ => ⟨a, q1, by rw [r.n]; exact q2, ?_⟩
        rw [r.can hv q2 (by rw [← hx.len]; exact hsx)]; exact q3
      · left
        rw [List.getElem_append_right (by omega)]; simp
    · have f1 := holdL_some.2 ⟨hs, e1⟩
      have f2 := holdL_some.2 ⟨ht, e2⟩
      rw [holdL_app] at f1 f2
      exact hx.best.st.valid.one s t a f1 f2
  rw [placeL_eq hy.hold, placeL_eq hk, holdL_app]
  exact hle a ha
#print axioms moreL_le
end Go.Sim
