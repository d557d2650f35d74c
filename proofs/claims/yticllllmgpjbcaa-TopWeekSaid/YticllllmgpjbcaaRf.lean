/- What the swap gives, in plain Lean: round by round, the best that is left. -/
import Derived.Test.YticllllmgpjbcaaRd
import Derived.Test.YticllllmgpjbcaaRe
namespace Go.Sim.W6
open Go.Proofs Go.Plain
set_option linter.unusedSimpArgs false
set_option linter.unusedVariables false
/-! ### what rings hand on -/
theorem nth_setT {l : List Turn} {i j : Nat} {v : Turn} (hi : i < l.length) : nth (l.set i v) j = if i = j then v else nth l j := by
  by_cases hj : j < l.length
  · rw [nth_get (by simpa using hj), nth_get hj, List.getElem_set]
  · rw [if_neg (by omega)]; simp [nth, List.getD_eq_getElem?_getD, List.getElem?_eq_none (show l.length ≤ j by omega), List.getElem?_eq_none (show (l.set i v).length ≤ j by simp; omega)]
theorem giveK_get {ow : List Turn} {r : List Nat} {out : List Turn} (hd : r.Nodup) (hr : ∀ x ∈ r, x < out.length) : ∀ c, c ≤ r.length → (∀ k (hk : k < r.length), k < c → nth (giveK ow r out c) r[k] = nth ow (nth r ((k + 1) % r.length))) ∧ ∀ x, x ∉ r.take c → nth (giveK ow r out c) x = nth out x
  | 0, _ => ⟨fun k _ h => by omega, fun x _ => rfl⟩
  | c + 1, hc => by
    obtain ⟨h1, h2⟩ := giveK_get (ow := ow) hd hr c (by omega)
    have hcl : c < r.length := by omega
    have hlt : nth r c < (giveK ow r out c).length := by rw [giveK_length, nth_get hcl]; exact hr _ (List.getElem_mem hcl)
    refine ⟨fun k hk hkc => ?_, fun x hx => ?_⟩
    · rw [giveK_succ, nth_setT hlt]
      by_cases hkk : k = c
      · subst hkk; rw [if_pos (nth_get hcl)]
      · rw [if_neg (by rw [nth_get hcl]; intro e; exact hkk ((nodup_inj hd).1 e).symm), h1 k hk (by omega)]
    · rw [List.take_succ_eq_append_getElem hcl, List.mem_append, List.mem_singleton, not_or] at hx
      rw [giveK_succ, nth_setT hlt, if_neg (by rw [nth_get hcl]; exact fun e => hx.2 e.symm), h2 x hx.1]
theorem giveR_get {ow : List Turn} : ∀ {rs : List (List Nat)} {out : List Turn}, rs.flatten.Nodup → (∀ x ∈ rs.flatten, x < out.length) → (∀ r ∈ rs, ∀ k (hk : k < r.length), nth (giveR ow rs out) r[k] = nth ow (nth r ((k + 1) % r.length))) ∧ ∀ x, x ∉ rs.flatten → nth (giveR ow rs out) x = nth out x
  | [], out, _, _ => ⟨fun r h => by simp at h, fun x _ => rfl⟩
  | r0 :: rs, out, hd, hl => by
    rw [List.flatten_cons] at hd hl
    obtain ⟨d1, d2, d3⟩ := List.nodup_append.1 hd
    obtain ⟨a1, a2⟩ := giveK_get (ow := ow) (out := out) d1 (fun x hx => hl x (List.mem_append_left _ hx)) r0.length (Nat.le_refl _)
    obtain ⟨b1, b2⟩ := giveR_get (ow := ow) (rs := rs) (out := giveK ow r0 out r0.length) d2 (fun x hx => by rw [giveK_length]; exact hl x (List.mem_append_right _ hx))
    refine ⟨fun r hr k hk => ?_, fun x hx => ?_⟩
    · rcases List.mem_cons.1 hr with rfl | hr
      · show nth (giveR ow rs (giveK ow r out r.length)) r[k] = _
        rw [b2 _ (fun h => d3 _ (List.getElem_mem hk) _ h rfl), a1 k hk hk]
      · exact b1 r hr k hk
    · rw [List.flatten_cons, List.mem_append, not_or] at hx
      show nth (giveR ow rs (giveK ow r0 out r0.length)) x = _
      rw [b2 x hx.2, a2 x (by rw [List.take_length]; exact hx.1)]
abbrev LV (ow : List Turn) (lk : List (List Turn)) (k : Nat) : List Nat := lv (ptF ow lk) ow.length (List.range ow.length) k
abbrev LVS (ow : List Turn) (lk : List (List Turn)) (k x : Nat) : Prop := Plain.Leaves (ptF ow lk) ow.length (List.range ow.length) k x
theorem lt_range {n : Nat} : ∀ x ∈ List.range n, x < n := fun _ => List.mem_range.1
theorem LV_lt {ow : List Turn} {lk : List (List Turn)} {k x : Nat} (h : x ∈ LV ow lk k) : x < ow.length := (lv_ok List.nodup_range lt_range k).2.1 x h
theorem exists_LVS (ow : List Turn) (lk : List (List Turn)) {x : Nat} (hx : x < ow.length) : ∃ k, LVS ow lk k x := by
  obtain ⟨k, _, h⟩ := exists_leaves (ptF_closed ow lk) List.nodup_range lt_range (List.mem_range.2 hx)
  exact ⟨k, h⟩
theorem LVS_unique {ow : List Turn} {lk : List (List Turn)} {k j x : Nat} (h : LVS ow lk k x) (h' : LVS ow lk j x) : k = j := Plain.Leaves.unique (ptF_closed ow lk) List.nodup_range lt_range h h'
theorem mem_allRings {ow : List Turn} {lk : List (List Turn)} {r : List Nat} : r ∈ allRings (ptF ow lk) ow.length ↔ ∃ k m, m ∈ LV ow lk k ∧ IsRing (ptF ow lk (LV ow lk k)) m r := by
  rw [allRings, mem_ringsF (ptF_closed ow lk) List.nodup_range lt_range (by simp)]
  constructor
  · rintro ⟨k, h⟩
    obtain ⟨_, h2, h3⟩ := lv_ok (g := ptF ow lk) (n := ow.length) List.nodup_range lt_range k
    obtain ⟨m, hm, hr⟩ := (mem_roundF (ptF_closed ow lk _) h3 h2).1 h
    exact ⟨k, m, hm, hr⟩
  · rintro ⟨k, m, hm, hr⟩
    obtain ⟨_, h2, h3⟩ := lv_ok (g := ptF ow lk) (n := ow.length) List.nodup_range lt_range k
    exact ⟨k, (mem_roundF (ptF_closed ow lk _) h3 h2).2 ⟨m, hm, hr⟩⟩
theorem allRings_nodup (ow : List Turn) (lk : List (List Turn)) : (allRings (ptF ow lk) ow.length).flatten.Nodup := (ringsF_nodup (ptF_closed ow lk) List.nodup_range lt_range).1
theorem mem_allRings_flat {ow : List Turn} {lk : List (List Turn)} {x : Nat} : x ∈ (allRings (ptF ow lk) ow.length).flatten ↔ x < ow.length := by
  constructor
  · intro h; exact List.mem_range.1 ((ringsF_nodup (ptF_closed ow lk) List.nodup_range lt_range).2 x h)
  · intro h
    obtain ⟨k, hk⟩ := exists_LVS ow lk h
    obtain ⟨_, h2, h3⟩ := lv_ok (g := ptF ow lk) (n := ow.length) List.nodup_range lt_range k
    obtain ⟨r, hr, hx⟩ := List.mem_flatten.1 ((mem_round (ptF_closed ow lk _) h3 h2).2 hk)
    exact List.mem_flatten.2 ⟨r, (mem_ringsF (ptF_closed ow lk) List.nodup_range lt_range (by simp) r).2 ⟨k, hr⟩, hx⟩
theorem allRings_count (ow : List Turn) (lk : List (List Turn)) : (allRings (ptF ow lk) ow.length).flatten.length = ow.length := by
  have hp : (allRings (ptF ow lk) ow.length).flatten.Perm (List.range ow.length) := (List.perm_ext_iff_of_nodup (allRings_nodup ow lk) List.nodup_range).2 fun x => by rw [mem_allRings_flat, List.mem_range]
  simpa using hp.length_eq
theorem nth_swap {ow : List Turn} {lk : List (List Turn)} (hv : ValidT ow lk) {k x : Nat} (h : LVS ow lk k x) : nth (swapT ow lk) x = nth ow (ptF ow lk (LV ow lk k) x) := by
  have hc : checkT ow lk = 0 := checkT_zero.2 hv
  rw [swapT, if_pos hc]
  obtain ⟨g1, _⟩ := giveR_get (ow := ow) (out := List.replicate ow.length (0, 0)) (allRings_nodup ow lk) (fun x hx => by simpa using mem_allRings_flat.1 hx)
  obtain ⟨_, h2, h3⟩ := lv_ok (g := ptF ow lk) (n := ow.length) List.nodup_range lt_range k
  obtain ⟨r, hr, hx⟩ := List.mem_flatten.1 ((mem_round (ptF_closed ow lk _) h3 h2).2 h)
  have hra : r ∈ allRings (ptF ow lk) ow.length := (mem_ringsF (ptF_closed ow lk) List.nodup_range lt_range (by simp) r).2 ⟨k, hr⟩
  obtain ⟨m, hm, hring⟩ := (mem_roundF (ptF_closed ow lk _) h3 h2).1 hr
  obtain ⟨c, hc, rfl⟩ := List.mem_iff_getElem.1 hx
  rw [g1 r hra c hc, nth_get (Nat.mod_lt _ (by omega)), ring_next hring hc]
theorem swap_length {ow : List Turn} {lk : List (List Turn)} (hv : ValidT ow lk) : (swapT ow lk).length = ow.length := by rw [swapT_length, if_pos (checkT_zero.2 hv)]
/-! ### the best that is left -/
def avail (ow : List Turn) (L : List Nat) (x : Turn) : Bool := decide (x ∈ ow ∧ ow.idxOf x ∈ L)
theorem ptK_find {ow : List Turn} {L : List Nat} {i : Nat} : ∀ l : List Turn, ptK ow L i l = match l.find? (avail ow L) with | some x => ow.idxOf x | none => i
  | [] => rfl
  | x :: r => by
    rw [ptK, List.find?_cons, avail]
    by_cases h : x ∈ ow ∧ ow.idxOf x ∈ L
    · rw [if_pos h, decide_eq_true h]
    · rw [if_neg h, decide_eq_false h]; exact ptK_find r
theorem own_takes (ow : List Turn) (lk : List (List Turn)) (i : Nat) : nth ow i ∈ takesT ow lk i := by simp [takesT]
structure Best (ow : List Turn) (lk : List (List Turn)) (L : List Nat) (i : Nat) : Prop where
  inL : ptF ow lk L i ∈ L
  lt : ptF ow lk L i < ow.length
  takes : nth ow (ptF ow lk L i) ∈ takesT ow lk i
  le : ∀ j ∈ L, rkR ow lk i (nth ow (ptF ow lk L i)) ≤ rkR ow lk i (nth ow j)
  uniq : ∀ j ∈ L, rkR ow lk i (nth ow j) ≤ rkR ow lk i (nth ow (ptF ow lk L i)) → j = ptF ow lk L i
theorem idxOf_inj {l : List Turn} {x y : Turn} (hx : x ∈ l) (h : l.idxOf x = l.idxOf y) : x = y := by
  have h1 : l.idxOf x < l.length := List.idxOf_lt_length_iff.2 hx
  have h2 : l.idxOf y < l.length := h ▸ h1
  have e1 := List.getElem_idxOf h1
  have e2 := List.getElem_idxOf h2
  rw [← e1, ← e2]
  simp only [h]
theorem best {ow : List Turn} {lk : List (List Turn)} (hv : ValidT ow lk) {L : List Nat} (hL : ∀ x ∈ L, x < ow.length) {i : Nat} (hi : i ∈ L) : Best ow lk L i := by
  have hin := hL i hi
  have hk : i < lk.length := by have := hv.same; omega
  have hav : ∀ j ∈ L, avail ow L (nth ow j) = true := fun j hj => by
    have hjn := hL j hj
    rw [avail, decide_eq_true_eq, nth_get hjn, idxOf_self hv.owns.1 hjn]
    exact ⟨List.getElem_mem hjn, hj⟩
  have hpt : ptF ow lk L i = ptK ow L i (takesT ow lk i) := (ptK_takesT hv.owns.1 hin hk).symm
  rw [ptK_find] at hpt
  cases hf : (takesT ow lk i).find? (avail ow L) with
  | none =>
    exact absurd (hav i hi) (List.find?_eq_none.1 hf _ (own_takes ow lk i))
  | some x =>
    rw [hf] at hpt
    simp only at hpt
    obtain ⟨hx, pre, post, he, has⟩ := List.find?_eq_some_iff_append.1 hf
    have hx' := hx
    rw [avail, decide_eq_true_eq] at hx'
    have hpl : ptF ow lk L i < ow.length := by rw [hpt]; exact List.idxOf_lt_length_iff.2 hx'.1
    have hnx : nth ow (ptF ow lk L i) = x := by rw [nth_get hpl]; simp only [hpt]; exact List.getElem_idxOf _
    have hxt : x ∈ takesT ow lk i := by rw [he]; simp
    have hxpre : x ∉ pre := fun h => by have := has x h; rw [hx] at this; cases this
    have hrx : rkR ow lk i x = pre.length := by rw [rkR, he, List.idxOf_append, if_neg hxpre]; simp
    have hle : ∀ j ∈ L, pre.length ≤ rkR ow lk i (nth ow j) := fun j hj => by
      have hjpre : nth ow j ∉ pre := fun h => by have := has _ h; rw [hav j hj] at this; cases this
      rw [rkR, he, List.idxOf_append, if_neg hjpre]; omega
    refine ⟨by rw [hpt]; exact hx'.2, hpl, by rw [hnx]; exact hxt, fun j hj => by rw [hnx, hrx]; exact hle j hj, fun j hj h => ?_⟩
    rw [hnx, hrx] at h
    have h2 : (takesT ow lk i).idxOf x = (takesT ow lk i).idxOf (nth ow j) := by
      have := hle j hj
      have e : rkR ow lk i x = rkR ow lk i (nth ow j) := by omega
      exact e
    have := idxOf_inj hxt h2
    have hjn := hL j hj
    rw [hpt, this, nth_get hjn, idxOf_self hv.owns.1 hjn]
theorem rkR_lt_of_mem {ow : List Turn} {lk : List (List Turn)} {i : Nat} {x : Turn} (h : x ∈ takesT ow lk i) : rkR ow lk i x < (takesT ow lk i).length := List.idxOf_lt_length_iff.2 h
theorem best_of {ow : List Turn} {lk : List (List Turn)} (hv : ValidT ow lk) {k x : Nat} (h : LVS ow lk k x) : Best ow lk (LV ow lk k) x := best hv (fun _ => LV_lt) h.1
/-! ### nobody is worse off -/
theorem out_inj {ow : List Turn} {lk : List (List Turn)} {k j x y : Nat} (hx : LVS ow lk k x) (hy : LVS ow lk j y) (h : ptF ow lk (LV ow lk k) x = ptF ow lk (LV ow lk j) y) : x = y := by
  have h1 := Plain.Leaves.step (ptF_closed ow lk) hx
  have h2 := Plain.Leaves.step (ptF_closed ow lk) hy
  rw [h] at h1
  obtain rfl := LVS_unique h1 h2
  exact hx.2.inj hy.2 h
theorem nth_injT {l : List Turn} (hd : l.Nodup) {i j : Nat} (hi : i < l.length) (hj : j < l.length) (h : nth l i = nth l j) : i = j := by
  rw [nth_get hi, nth_get hj] at h
  exact (nodup_inj hd).1 h
theorem swap_inj {ow : List Turn} {lk : List (List Turn)} (hv : ValidT ow lk) {x y : Nat} (hx : x < ow.length) (hy : y < ow.length) (h : nth (swapT ow lk) x = nth (swapT ow lk) y) : x = y := by
  obtain ⟨k, hk⟩ := exists_LVS ow lk hx
  obtain ⟨j, hj⟩ := exists_LVS ow lk hy
  rw [nth_swap hv hk, nth_swap hv hj] at h
  exact out_inj hk hj (nth_injT hv.owns.1 (best_of hv hk).lt (best_of hv hj).lt h)
theorem swap_nodup {ow : List Turn} {lk : List (List Turn)} (hv : ValidT ow lk) : (swapT ow lk).Nodup := by
  refine nodup_of_inj fun i j hij hj h => ?_
  have hl := swap_length hv
  have hjl : j < (swapT ow lk).length := by omega
  have := swap_inj hv (x := i) (y := j) (by omega) (by omega) (by
    rw [nth_get (by omega), nth_get hjl]
    rw [List.getElem?_eq_getElem (by omega), List.getElem?_eq_getElem hjl] at h
    exact Option.some.inj h)
  omega
theorem swap_mem {ow : List Turn} {lk : List (List Turn)} (hv : ValidT ow lk) {x : Nat} (hx : x < ow.length) : nth (swapT ow lk) x ∈ ow ∧ nth (swapT ow lk) x ∈ takesT ow lk x := by
  obtain ⟨k, hk⟩ := exists_LVS ow lk hx
  rw [nth_swap hv hk]
  have b := best_of hv hk
  exact ⟨by rw [nth_get b.lt]; exact List.getElem_mem b.lt, b.takes⟩
theorem GoodTrade.valid {ow : List Turn} {lk : List (List Turn)} {most : Nat} (h : GoodTrade ow lk most) (hm : most ≤ 8) : ValidT ow lk := ⟨Nat.le_trans h.most hm, h.same, h.owns, fun l hl => ⟨(h.likes l hl).1, by have := (h.likes l hl).2; have := h.most; omega⟩⟩
theorem ringsT_eq {ow : List Turn} {lk : List (List Turn)} (hv : ValidT ow lk) : ringsT ow lk = allRings (ptF ow lk) ow.length := if_pos (checkT_zero.2 hv)
theorem ring_swap {ow : List Turn} {lk : List (List Turn)} (hv : ValidT ow lk) {r : List Nat} (hr : r ∈ ringsT ow lk) {k : Nat} (hk : k < r.length) : (∀ x ∈ r, x < ow.length) ∧ nth (swapT ow lk) (nth r k) = nth ow (nth r ((k + 1) % r.length)) ∧ nth r 0 ≤ nth r k := by
  rw [ringsT_eq hv] at hr
  refine ⟨(allRings_mem ow lk r hr).1, ?_, ?_⟩
  · obtain ⟨g1, _⟩ := giveR_get (ow := ow) (out := List.replicate ow.length (0, 0)) (allRings_nodup ow lk) (fun x hx => by simpa using mem_allRings_flat.1 hx)
    rw [swapT, if_pos (checkT_zero.2 hv), nth_get hk]
    exact g1 r hr k hk
  · obtain ⟨_, m, _, h⟩ := mem_allRings.1 hr
    rw [nth_get hk, nth_get (by omega)]
    exact ring_least h hk
theorem ringsT_count {ow : List Turn} {lk : List (List Turn)} (hv : ValidT ow lk) : (ringsT ow lk).flatten.length = ow.length := by rw [ringsT_eq hv]; exact allRings_count ow lk
theorem swap_fresh {ow : List Turn} {lk : List (List Turn)} (hv : ValidT ow lk) {i : Nat} (hi : i < (swapT ow lk).length) : (swapT ow lk)[i] ∉ (swapT ow lk).take i := by
  intro h
  obtain ⟨j, hj, e⟩ := List.mem_take_iff_getElem.1 h
  have := (nodup_inj (swap_nodup hv)).1 e
  omega
end Go.Sim.W6
