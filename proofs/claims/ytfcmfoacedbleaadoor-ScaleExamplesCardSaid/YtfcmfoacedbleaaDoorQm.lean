/- Seals: what is met already (the search's memory). -/
import Derived.Test.YtfcmfoacedbleaaDoorQj
import Derived.Test.YtfcmfoacedbleaaDoorMd
set_option linter.all false
set_option linter.unusedVariables false
set_option linter.unusedSimpArgs false
set_option linter.unusedSectionVars false
namespace Go.Sim
open Go.Proofs
/-- until when each scale is sealed -/
structure Until (u : List Int) : Prop where
  l : u.length = 4
  r : ∀ x ∈ u, -1 ≤ x ∧ x ≤ 10
def keyM (day : Int) (u : List Int) : Value := .agg (.int .i64 day :: u.map fun n => .int .i64 n).toArray
def shM : Value := .agg #[.int .i64 0, .int .i64 0, .int .i64 0, .int .i64 0, .int .i64 0]
abbrev mornV (day : Int) (u : List Int) : AV := .agg (I day :: u.map I)
abbrev Memo := List ((Int × List Int) × Pln)
def entE (L : Memo) : List (Value × AV) := L.map fun x => (keyM x.1.1 x.1.2, plnV x.2)
theorem entE_len (L : Memo) : (entE L).length = L.length := by simp [entE]
theorem entE_map {L : Memo} {g : Value × AV → Value × AV} (h : ∀ (k : Value) (p : Pln), g (k, plnV p) = (k, plnV p)) : (entE L).map g = entE L := by
  unfold entE
  rw [List.map_map]
  exact List.map_congr_left fun b _ => h _ _
theorem entE_kill {L : Memo} {id : Nat} : (entE L).map (fun y => (y.1, AV.mapTop (AV.kill id) y.2)) = entE L := entE_map fun _ _ => rfl
theorem entE_frz {L : Memo} {id : Nat} {els : List AV} : (entE L).map (fun y => (y.1, AV.mapTop (AV.frz id els) y.2)) = entE L := entE_map fun _ _ => rfl
theorem entE_ren {L : Memo} {ρ : Nat → Nat} : (entE L).map (fun y => (y.1, AV.ren ρ y.2)) = entE L := entE_map fun _ _ => rfl
theorem entE_all {L : Memo} {p : Value × AV → Bool} (h : ∀ (k : Value) (q : Pln), p (k, plnV q) = true) : (entE L).all p = true := by
  rw [List.all_eq_true]
  intro x hx
  obtain ⟨b, _, rfl⟩ := List.mem_map.1 hx
  exact h _ _
theorem entE_named {L : Memo} {l : List Nat} : (entE L).all (fun x => AV.named l x.2) = true := entE_all fun _ _ => rfl
theorem tst_data : ∀ l : List Tst, AV.isDataL (l.map T2) = true
  | [] => rfl
  | x :: l => by
    show ((T2 x).isData && AV.isDataL (l.map T2)) = true
    rw [tst_data l]; rfl
theorem plnV_data (p : Pln) : (plnV p).isData = true := by
  simp [plnV, AV.isData, AV.isDataL, tst_data]
theorem entE_isData {L : Memo} : (entE L).all (fun x => AV.isData x.2) = true := entE_all fun _ p => plnV_data p
theorem entE_men {L : Memo} {id : Nat} : AV.menL id ((entE L).map (fun y => y.2)) = false := by
  unfold entE
  rw [List.map_map]
  refine AV.menL_of_isDataL id _ ?_
  induction L with
  | nil => rfl
  | cons b L ih =>
    show ((plnV b.2).isData && AV.isDataL _) = true
    rw [plnV_data]; exact ih
theorem keyM_inj {d d' : Int} {u u' : List Int} (h : keyM d u = keyM d' u') : d = d' ∧ u = u' := by
  unfold keyM at h
  have h1 := congrArg Array.toList (Value.agg.inj h)
  simp only [List.cons.injEq, Value.int.injEq] at h1
  exact ⟨h1.1.2, List.map_inj_right (by intro x y h; cases h; rfl) |>.1 h1.2⟩
theorem key_wf {n : Int} (h1 : -100 ≤ n) (h2 : n ≤ 100) : wfI64 (.int .i64 n) = true := by
  have e1 : IntKind.i64.min = -9223372036854775808 := by decide
  have e2 : IntKind.i64.max = 9223372036854775807 := by decide
  show (Lit.int .i64 n).wf = true
  simp only [Lit.wf, e1, e2, Bool.and_eq_true, decide_eq_true_eq]; omega
theorem keyM_fits {d : Int} {u : List Int} (h1 : 0 ≤ d) (h2 : d ≤ 10) (hu : Until u) : fitsKey shM (keyM d u) = true := by
  show ((5 == (Value.int .i64 d :: u.map fun n => Value.int .i64 n).toArray.size) && ((Value.int .i64 d :: u.map fun n => Value.int .i64 n).toArray.toList.all wfI64)) = true
  rw [Bool.and_eq_true]
  refine ⟨by simp [hu.l], ?_⟩
  rw [List.all_eq_true]
  intro x hx
  rcases List.mem_cons.1 (show x ∈ Value.int .i64 d :: (u.map fun n => Value.int .i64 n) from hx) with rfl | h
  · exact key_wf (by omega) (by omega)
  · obtain ⟨n, hn, rfl⟩ := List.mem_map.1 h
    have := hu.r n hn
    exact key_wf (by omega) (by omega)
theorem vals_ints : ∀ u : List Int, AV.vals (u.map I) = some (u.map fun n => Value.int .i64 n)
  | [] => rfl
  | x :: u => by
    show (match I x with | .val v => (AV.vals (u.map I)).map (v :: ·) | _ => none) = _
    rw [vals_ints u]; rfl
theorem keyV_morn (d : Int) (u : List Int) : keyV (mornV d u) = some (keyM d u) := by
  show (AV.vals (I d :: u.map I)).map (fun l => Value.agg l.toArray) = _
  show ((AV.vals (u.map I)).map (Value.int .i64 d :: ·)).map (fun l => Value.agg l.toArray) = _
  rw [vals_ints]; rfl
def setL (k : Int × List Int) (p : Pln) : Memo → Memo
  | [] => [(k, p)]
  | x :: r => if k = x.1 then (k, p) :: r else x :: setL k p r
/-- what is met is right -/
structure MemoOk (s : Sls) (L : Memo) : Prop where
  ok : ∀ x ∈ L, (0 ≤ x.1.1 ∧ x.1.1 ≤ s.days) ∧ Until x.1.2 ∧ x.2 = planF s (s.days + 1 - x.1.1).toNat x.1.1 x.1.2
  nd : (L.map (·.1)).Nodup
theorem sameKey_M {d d' : Int} {u u' : List Int} (h1 : 0 ≤ d ∧ d ≤ 10) (hu : Until u) (h2 : 0 ≤ d' ∧ d' ≤ 10) (hu' : Until u') : sameKey (keyM d u) (keyM d' u') = true ↔ (d, u) = (d', u') := by
  rw [sameKey_iff (keyM_fits h1.1 h1.2 hu) (keyM_fits h2.1 h2.2 hu')]
  constructor
  · intro h; obtain ⟨rfl, rfl⟩ := keyM_inj h; rfl
  · intro h; cases h; rfl
theorem get_memo {s : Sls} (hs : s.days ≤ 10) {d : Int} {u : List Int} (hd : 0 ≤ d ∧ d ≤ 10) (hu : Until u) : ∀ {L : Memo}, MemoOk s L → getM (keyM d u) (entE L) = none ∨ getM (keyM d u) (entE L) = some (plnV (planF s (s.days + 1 - d).toNat d u))
  | [], _ => .inl rfl
  | x :: L, h => by
    obtain ⟨h1, h2, h3⟩ := h.ok x (by simp)
    have ih := get_memo hs hd hu (L := L) ⟨fun y hy => h.ok y (by simp [hy]), (List.nodup_cons.1 h.nd).2⟩
    show (if sameKey (keyM d u) (keyM x.1.1 x.1.2) = true then some (plnV x.2) else getM (keyM d u) (entE L)) = none ∨ (if sameKey (keyM d u) (keyM x.1.1 x.1.2) = true then some (plnV x.2) else getM (keyM d u) (entE L)) = _
    by_cases e : (d, u) = (x.1.1, x.1.2)
    · rw [if_pos ((sameKey_M hd hu ⟨h1.1, by omega⟩ h2).2 e)]
      obtain ⟨e1, e2⟩ := Prod.mk.inj e
      right; rw [h3, e1, e2]
    · rw [if_neg (fun n => e ((sameKey_M hd hu ⟨h1.1, by omega⟩ h2).1 n))]; exact ih
theorem set_memo {s : Sls} (hs : s.days ≤ 10) {d : Int} {u : List Int} (hd : 0 ≤ d ∧ d ≤ 10) (hu : Until u) (p : Pln) : ∀ {L : Memo}, MemoOk s L → setM (keyM d u) (plnV p) (entE L) = entE (setL (d, u) p L)
  | [], _ => rfl
  | x :: L, h => by
    obtain ⟨h1, h2, h3⟩ := h.ok x (by simp)
    have ih := set_memo hs hd hu p (L := L) ⟨fun y hy => h.ok y (by simp [hy]), (List.nodup_cons.1 h.nd).2⟩
    show (if sameKey (keyM d u) (keyM x.1.1 x.1.2) = true then (keyM d u, plnV p) :: entE L else (keyM x.1.1 x.1.2, plnV x.2) :: setM (keyM d u) (plnV p) (entE L)) = _
    rw [setL]
    by_cases e : (d, u) = x.1
    · rw [if_pos ((sameKey_M hd hu ⟨h1.1, by omega⟩ h2).2 e), if_pos e]; rfl
    · rw [if_neg (fun n => e ((sameKey_M hd hu ⟨h1.1, by omega⟩ h2).1 n)), if_neg e, ih]; rfl
theorem setL_keys (k : Int × List Int) (p : Pln) : ∀ L : Memo, (setL k p L).map (·.1) = if k ∈ L.map (·.1) then L.map (·.1) else L.map (·.1) ++ [k]
  | [] => rfl
  | x :: L => by
    rw [setL]
    by_cases e : k = x.1
    · rw [if_pos e, if_pos (by simp [e])]; simp [e]
    · rw [if_neg e, List.map_cons, setL_keys k p L, List.map_cons]
      by_cases h : k ∈ L.map (·.1)
      · rw [if_pos h, if_pos (List.mem_cons_of_mem _ h)]
      · rw [if_neg h, if_neg (by rw [List.mem_cons]; rintro (h' | h'); exact e h'; exact h h')]; rfl
theorem setL_mem {k : Int × List Int} {p : Pln} : ∀ {L : Memo} {y : (Int × List Int) × Pln}, y ∈ setL k p L → y = (k, p) ∨ y ∈ L
  | [], y, h => by rw [setL, List.mem_singleton] at h; exact .inl h
  | x :: L, y, h => by
    rw [setL] at h
    split at h
    · rcases List.mem_cons.1 h with h | h
      · exact .inl h
      · exact .inr (List.mem_cons_of_mem _ h)
    · rcases List.mem_cons.1 h with h | h
      · exact .inr (by rw [h]; simp)
      · rcases setL_mem h with h | h
        · exact .inl h
        · exact .inr (List.mem_cons_of_mem _ h)
theorem memo_set {s : Sls} {d : Int} {u : List Int} (hd : 0 ≤ d ∧ d ≤ s.days) (hu : Until u) {L : Memo} (h : MemoOk s L) : MemoOk s (setL (d, u) (planF s (s.days + 1 - d).toNat d u) L) := by
  refine ⟨fun x hx => ?_, ?_⟩
  · rcases setL_mem hx with rfl | hx
    · exact ⟨hd, hu, rfl⟩
    · exact h.ok x hx
  · rw [setL_keys]
    split
    · exact h.nd
    · rename_i hn
      rw [List.nodup_append]
      refine ⟨h.nd, by simp, fun a ha b hb => ?_⟩
      rw [List.mem_singleton.1 hb]
      rintro rfl; exact hn ha
def encM (k : Int × List Int) : Nat := match k with
  | (d, [a, b, c, e]) => (((d.toNat * 12 + (a + 1).toNat) * 12 + (b + 1).toNat) * 12 + (c + 1).toNat) * 12 + (e + 1).toNat
  | _ => 0
theorem dig {x y a b : Nat} (h : x * 12 + a = y * 12 + b) (ha : a < 12) (hb : b < 12) : x = y ∧ a = b := by omega
theorem dig1 {a b : Int} (ha : -1 ≤ a) (hb : -1 ≤ b) (h : (a + 1).toNat = (b + 1).toNat) : a = b := by omega
theorem dig2 {a : Int} (h : -1 ≤ a ∧ a ≤ 10) : (a + 1).toNat < 12 := by omega
theorem enc_inj {k k' : Int × List Int} (h1 : 0 ≤ k.1 ∧ k.1 ≤ 10) (hu : Until k.2) (h2 : 0 ≤ k'.1 ∧ k'.1 ≤ 10) (hu' : Until k'.2) (h : encM k = encM k') : k = k' := by
  obtain ⟨d, u⟩ := k
  obtain ⟨d', u'⟩ := k'
  have l1 := hu.l
  have l2 := hu'.l
  match u, u', l1, l2 with
  | [a, b, c, e], [a', b', c', e'], _, _ =>
    have ra := hu.r a (by simp); have rb := hu.r b (by simp); have rc := hu.r c (by simp); have re := hu.r e (by simp)
    have ra' := hu'.r a' (by simp); have rb' := hu'.r b' (by simp); have rc' := hu'.r c' (by simp); have re' := hu'.r e' (by simp)
    simp only at h1 h2
    simp only [encM] at h
    obtain ⟨h, g1⟩ := dig h (dig2 re) (dig2 re')
    obtain ⟨h, g2⟩ := dig h (dig2 rc) (dig2 rc')
    obtain ⟨h, g3⟩ := dig h (dig2 rb) (dig2 rb')
    obtain ⟨h, g4⟩ := dig h (dig2 ra) (dig2 ra')
    have e1 : d = d' := by clear g1 g2 g3 g4; omega
    rw [e1, dig1 ra.1 ra'.1 g4, dig1 rb.1 rb'.1 g3, dig1 rc.1 rc'.1 g2, dig1 re.1 re'.1 g1]
theorem enc_lt1 {x a n : Nat} (h : x < n) (ha : a < 12) : x * 12 + a < n * 12 := by omega
theorem enc_lt {k : Int × List Int} (h1 : 0 ≤ k.1 ∧ k.1 ≤ 10) (hu : Until k.2) : encM k < 228096 := by
  obtain ⟨d, u⟩ := k
  have l1 := hu.l
  match u, l1 with
  | [a, b, c, e], _ =>
    have ra := hu.r a (by simp); have rb := hu.r b (by simp); have rc := hu.r c (by simp); have re := hu.r e (by simp)
    simp only at h1
    exact enc_lt1 (n := 19008) (enc_lt1 (n := 1584) (enc_lt1 (n := 132) (enc_lt1 (n := 11) (by omega) (dig2 ra)) (dig2 rb)) (dig2 rc)) (dig2 re)
theorem enc_nodup : ∀ {L : List (Int × List Int)}, L.Nodup → (∀ k ∈ L, (0 ≤ k.1 ∧ k.1 ≤ 10) ∧ Until k.2) → (L.map encM).Nodup
  | [], _, _ => by simp
  | k :: L, h, hk => by
    rw [List.nodup_cons] at h
    rw [List.map_cons, List.nodup_cons]
    refine ⟨fun hm => ?_, enc_nodup h.2 fun j hj => hk j (by simp [hj])⟩
    obtain ⟨j, hj, e⟩ := List.mem_map.1 hm
    have a1 := hk k (by simp)
    have a2 := hk j (by simp [hj])
    exact h.1 (enc_inj a2.1 a2.2 a1.1 a1.2 e ▸ hj)
theorem memo_len {s : Sls} (hs : s.days ≤ 10) {L : Memo} (h : MemoOk s L) : L.length ≤ 228096 := by
  have h1 : ((L.map (·.1)).map encM).Nodup := enc_nodup h.nd fun k hk => by
    obtain ⟨x, hx, rfl⟩ := List.mem_map.1 hk
    have := h.ok x hx
    exact ⟨⟨this.1.1, by omega⟩, this.2.1⟩
  have h2 := List.Nodup.length_le_of_subset (l₂ := List.range 228096) h1 fun n hn => by
    obtain ⟨k, hk, rfl⟩ := List.mem_map.1 hn
    obtain ⟨x, hx, rfl⟩ := List.mem_map.1 hk
    have := h.ok x hx
    exact List.mem_range.2 (enc_lt ⟨this.1.1, by omega⟩ this.2.1)
  simpa using h2
/-- the choice of some scales keeps the days within bounds -/
theorem setS_until {s : Sls} (hv : ValidS s) {day : Int} (hd : 0 ≤ day) {u : List Int} (hu : Until u) (set : Nat) : ∀ i, i ≤ s.lef.length → Until (setS s day u set i).2.1 ∧ (setS s day u set i).1.length ≤ i
  | 0, _ => ⟨hu, Nat.le_refl _⟩
  | i + 1, hi => by
    obtain ⟨h1, h2⟩ := setS_until hv hd hu set i (by omega)
    simp only [setS]
    have l4 := hv.l4
    have hl := h1.l
    have hdy := hv.days
    refine ⟨?_, ?_⟩
    · split
      · refine ⟨by rw [List.length_set]; exact hl, fun x hx => ?_⟩
        rcases List.mem_or_eq_of_mem_set hx with hx | rfl
        · exact h1.r x hx
        · have hil : i < (setS s day u set i).2.1.length := by omega
          have r1 := h1.r _ (List.getElem_mem hil)
          have hie : i < s.eve.length := by have := hv.le; omega
          have r2 := hv.eve _ (List.getElem_mem hie)
          rw [nth_get hil, nth_get hie]
          omega
      · exact h1
    · split
      · rw [List.length_append]; simp; omega
      · omega
theorem setS_succ (s : Sls) (day : Int) (u : List Int) (set i : Nat) : setS s day u set (i + 1) =
    (if set.testBit i = true then (setS s day u set i).1 ++ [⟨day, (i : Int)⟩] else (setS s day u set i).1,
     if set.testBit i = true then (setS s day u set i).2.1.set i (min s.days (max (nth (setS s day u set i).2.1 i) (day + nth s.eve i))) else (setS s day u set i).2.1,
     (setS s day u set i).2.2 && decide (day ≤ nth (if set.testBit i = true then (setS s day u set i).2.1.set i (min s.days (max (nth (setS s day u set i).2.1 i) (day + nth s.eve i))) else (setS s day u set i).2.1) i)) := rfl
theorem allK_succ (s : Sls) (next : List Int → Pln) (day : Int) (u : List Int) (j : Nat) : allK s next day u (j + 1) =
    (if (setS s day u j s.eve.length).2.2 = false ∨ s.most < ((setS s day u j s.eve.length).1.length : Int) then allK s next day u j else allK s next day u j ++ [((setS s day u j s.eve.length).1 ++ (next (setS s day u j s.eve.length).2.1).1, (next (setS s day u j s.eve.length).2.1).2)]) := rfl
theorem allK_len (s : Sls) (next : List Int → Pln) (day : Int) (u : List Int) : ∀ j, (allK s next day u j).length ≤ j
  | 0 => Nat.le_refl _
  | j + 1 => by
    have ih := allK_len s next day u j
    simp only [allK]
    split
    · omega
    · rw [List.length_append]; simp; omega
theorem setS_len (s : Sls) (day : Int) (u : List Int) (set : Nat) : ∀ i, (setS s day u set i).1.length ≤ i
  | 0 => Nat.le_refl _
  | i + 1 => by
    have h := setS_len s day u set i
    rw [setS_succ]
    dsimp only
    split
    · rw [List.length_append]; simp; omega
    · omega
theorem bestF_mem : ∀ (l : List Pln) (o : Pln), bestF o l = o ∨ bestF o l ∈ l
  | [], o => .inl rfl
  | x :: xs, o => by
    rw [bestF]
    rcases bestF_mem xs (if betterP x o = true then x else o) with h | h
    · rw [h]
      split
      · exact .inr (by simp)
      · exact .inl rfl
    · exact .inr (List.mem_cons_of_mem _ h)
theorem bestP_mem (l : List Pln) : bestP l = ([], false) ∨ bestP l ∈ l := by
  cases l with
  | nil => exact .inl rfl
  | cons x xs =>
    right
    rcases bestF_mem xs x with h | h
    · show bestF x xs ∈ _; rw [h]; simp
    · exact List.mem_cons_of_mem _ h
theorem allK_mem {s : Sls} {next : List Int → Pln} {day : Int} {u : List Int} {p : Pln} : ∀ {j : Nat}, p ∈ allK s next day u j → ∃ k v, p = ((setS s day u k s.eve.length).1 ++ (next v).1, (next v).2)
  | 0, h => by cases h
  | j + 1, h => by
    rw [allK_succ] at h
    split at h
    · exact allK_mem h
    · rcases List.mem_append.1 h with h | h
      · exact allK_mem h
      · exact ⟨j, _, List.mem_singleton.1 h⟩
theorem planF_len (s : Sls) : ∀ (k : Nat) (day : Int) (u : List Int), (planF s k day u).1.length ≤ s.eve.length * k
  | 0, _, _ => Nat.zero_le _
  | k + 1, day, u => by
    rw [planF]
    rcases bestP_mem (allK s (planF s k (day + 1)) day u (2 ^ s.lef.length)) with h | h
    · rw [h]; exact Nat.zero_le _
    · obtain ⟨j, v, e⟩ := allK_mem h
      rw [e]
      have h1 := setS_len s day u j s.eve.length
      have h2 := planF_len s k (day + 1) v
      rw [List.length_append, Nat.mul_succ]
      omega
/-- bits of a number, as the program asks for them -/
theorem bit_ask {j i : Nat} (hj : j < 4294967296) (hi : i < 32) : andI .i64 (shrI .i64 (j : Int) (i : Int)) 1 = if j.testBit i then 1 else 0 := by
  rw [andI_eq, shrI_eq]
  have e0 : min ((i : Int).toNat) IntKind.i64.bits = i := by
    have : IntKind.i64.bits = 64 := rfl
    rw [this]; omega
  rw [e0]
  have e1 : (j : Int).fdiv (2 ^ i) = ((j >>> i : Nat) : Int) := by
    rw [Int.fdiv_eq_ediv_of_nonneg _ (Int.pow_nonneg (by omega)), Nat.shiftRight_eq_div_pow]
    simp
  rw [e1]
  have h2 : j >>> i < 4294967296 := by
    rw [Nat.shiftRight_eq_div_pow]; exact Nat.lt_of_le_of_lt (Nat.div_le_self _ _) hj
  have e4 : j.testBit i = decide ((j >>> i) % 2 = 1) := by
    rw [Nat.testBit, Nat.and_comm, Nat.and_one_is_mod]
    rcases Nat.mod_two_eq_zero_or_one (j >>> i) with h | h <;> rw [h] <;> rfl
  rw [e4]
  clear e4 e1
  generalize j >>> i = q at h2 ⊢
  have h3 : (BitVec.ofInt IntKind.i64.bits ((q : Nat) : Int) &&& BitVec.ofInt IntKind.i64.bits 1).toNat = (q) % 2 := by
    rw [BitVec.toNat_and]
    have e1 : (BitVec.ofInt IntKind.i64.bits ((q : Nat) : Int)).toNat = q := by
      rw [BitVec.toNat_ofInt]
      have : (2 : Nat) ^ IntKind.i64.bits = 18446744073709551616 := by decide
      rw [this]; omega
    have e2 : (BitVec.ofInt IntKind.i64.bits 1).toNat = 1 := by decide
    rw [e1, e2, Nat.and_one_is_mod]
  rw [h3]
  rcases Nat.mod_two_eq_zero_or_one (q) with h | h <;> rw [h] <;> decide
theorem shl_one {n : Nat} (h : n ≤ 4) : shlI .i64 1 (n : Int) = ((2 ^ n : Nat) : Int) := by
  rw [shlI_eq]
  match n, h with
  | 0, _ => decide
  | 1, _ => decide
  | 2, _ => decide
  | 3, _ => decide
  | 4, _ => decide
end Go.Sim
