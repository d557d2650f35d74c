/- Cellars, plainly: what is valid, how much ice there is, what is lost. -/
import Derived.Test.YtamcckgclidgkabDoorKa
set_option linter.all false
set_option linter.unusedVariables false
set_option linter.unusedSimpArgs false
set_option linter.unusedSectionVars false
namespace Go.Sim
open Go.Proofs
theorem take_map' {α β : Type} (f : α → β) (l : List α) (i : Nat) : (l.map f).take i = (l.take i).map f := List.map_take.symm
theorem drop_map' {α β : Type} (f : α → β) (l : List α) (i : Nat) : (l.map f).drop i = (l.drop i).map f := List.map_drop.symm
attribute [simp] take_map' drop_map'
structure Spn where
  lo : Int
  hi : Int
  deriving DecidableEq
structure CBox where
  room : Int
  ice : Spn
  melt : Spn
  cld : Spn
  wrm : Spn
  deriving DecidableEq
structure Fil where
  box : Int
  hour : Int
  grams : Int
  deriving DecidableEq
structure Rat where
  above : Int
  loss : Int
  deriving DecidableEq
structure Cel where
  hall : Spn
  boxes : List CBox
  fils : List Fil
  rats : List Rat
  deriving DecidableEq
structure Sty where
  box : Int
  frm : Int
  til : Int
  deriving DecidableEq
structure CLot where
  born : Int
  keeps : Int
  stays : List Sty
  deriving DecidableEq
instance : NthD CBox := ⟨⟨0, ⟨0, 0⟩, ⟨0, 0⟩, ⟨0, 0⟩, ⟨0, 0⟩⟩⟩
instance : NthD Fil := ⟨⟨0, 0, 0⟩⟩
instance : NthD Rat := ⟨⟨0, 0⟩⟩
instance : NthD Sty := ⟨⟨0, 0, 0⟩⟩
instance : NthD CLot := ⟨⟨0, 0, []⟩⟩
def B9 (b : CBox) : AV := .agg [I b.room, I b.ice.lo, I b.ice.hi, I b.melt.lo, I b.melt.hi, I b.cld.lo, I b.cld.hi, I b.wrm.lo, I b.wrm.hi]
def F3 (f : Fil) : AV := .agg [I f.box, I f.hour, I f.grams]
def R2 (r : Rat) : AV := .agg [I r.above, I r.loss]
def T3 (s : Sty) : AV := .agg [I s.box, I s.frm, I s.til]
def L3 (l : CLot) : AV := .agg [I l.born, I l.keeps, .imm (l.stays.map T3)]
theorem B9_def (b : CBox) : B9 b = .agg [I b.room, I b.ice.lo, I b.ice.hi, I b.melt.lo, I b.melt.hi, I b.cld.lo, I b.cld.hi, I b.wrm.lo, I b.wrm.hi] := rfl
theorem F3_def (f : Fil) : F3 f = .agg [I f.box, I f.hour, I f.grams] := rfl
theorem R2_def (r : Rat) : R2 r = .agg [I r.above, I r.loss] := rfl
theorem T3_def (s : Sty) : T3 s = .agg [I s.box, I s.frm, I s.til] := rfl
theorem L3_def (l : CLot) : L3 l = .agg [I l.born, I l.keeps, .imm (l.stays.map T3)] := rfl
attribute [simp] B9_def F3_def R2_def T3_def L3_def
abbrev boxesV (l : List CBox) : AV := .imm (l.map B9)
abbrev filsV (l : List Fil) : AV := .imm (l.map F3)
abbrev ratsV (l : List Rat) : AV := .imm (l.map R2)
abbrev staysV (l : List Sty) : AV := .imm (l.map T3)
abbrev lotsV (l : List CLot) : AV := .imm (l.map L3)
abbrev spnV (x : Spn) : AV := .agg [I x.lo, I x.hi]
abbrev celV (c : Cel) : AV := .agg [I c.hall.lo, I c.hall.hi, boxesV c.boxes, filsV c.fils, ratsV c.rats]
abbrev lotV (l : CLot) : AV := .agg [I l.born, I l.keeps, staysV l.stays]
/-- the first result that is not 0 -/
def firstNZ {α : Type} (f : α → Int) : List α → Int
  | [] => 0
  | x :: xs => if f x = 0 then firstNZ f xs else f x
theorem firstNZ_hit {α : Type} {f : α → Int} {l : List α} {i : Nat} (h : i < l.length) (hf : ¬ f l[i] = 0) : firstNZ f (l.drop i) = f l[i] := by
  rw [List.drop_eq_getElem_cons h, firstNZ, if_neg hf]
theorem firstNZ_skip {α : Type} {f : α → Int} {l : List α} {i : Nat} (h : i < l.length) (hf : f l[i] = 0) : firstNZ f (l.drop i) = firstNZ f (l.drop (i + 1)) := by
  rw [List.drop_eq_getElem_cons h, firstNZ, if_pos hf]
theorem firstNZ_done {α : Type} {f : α → Int} {l : List α} {i : Nat} (h : l.length ≤ i) : firstNZ f (l.drop i) = 0 := by
  rw [List.drop_of_length_le h]; rfl
theorem firstNZ_zero {α : Type} {f : α → Int} : ∀ {l : List α}, firstNZ f l = 0 ↔ ∀ x ∈ l, f x = 0
  | [] => by simp [firstNZ]
  | x :: xs => by
    by_cases h : f x = 0
    · simp [firstNZ, h, firstNZ_zero (l := xs)]
    · simp [firstNZ, h]
def spanErr (x : Spn) (lo hi : Int) : Int := if ¬ ((lo ≤ x.lo ∧ x.lo ≤ hi) ∧ (lo ≤ x.hi ∧ x.hi ≤ hi)) then 1 else if x.hi < x.lo then 5 else 0
theorem spanErr_zero {x : Spn} {lo hi : Int} : spanErr x lo hi = 0 ↔ lo ≤ x.lo ∧ x.lo ≤ x.hi ∧ x.hi ≤ hi := by
  unfold spanErr
  (repeat' split) <;> omega
def boxErr (b : CBox) : Int :=
  if ¬ (0 ≤ b.room ∧ b.room ≤ 100000) then 1 else if spanErr b.ice 0 b.room ≠ 0 then spanErr b.ice 0 b.room
  else if spanErr b.melt 0 100000 ≠ 0 then spanErr b.melt 0 100000 else if spanErr b.cld (-300) 400 ≠ 0 then spanErr b.cld (-300) 400
  else if spanErr b.wrm (-300) 400 ≠ 0 then spanErr b.wrm (-300) 400 else if b.wrm.lo < b.cld.hi then 9 else 0
structure BoxOk (b : CBox) : Prop where
  room : 0 ≤ b.room ∧ b.room ≤ 100000
  ice : 0 ≤ b.ice.lo ∧ b.ice.lo ≤ b.ice.hi ∧ b.ice.hi ≤ b.room
  melt : 0 ≤ b.melt.lo ∧ b.melt.lo ≤ b.melt.hi ∧ b.melt.hi ≤ 100000
  cld : -300 ≤ b.cld.lo ∧ b.cld.lo ≤ b.cld.hi ∧ b.cld.hi ≤ 400
  wrm : -300 ≤ b.wrm.lo ∧ b.wrm.lo ≤ b.wrm.hi ∧ b.wrm.hi ≤ 400
  clash : b.cld.hi ≤ b.wrm.lo
theorem boxErr_zero {b : CBox} : boxErr b = 0 ↔ BoxOk b := by
  unfold boxErr
  constructor
  · intro h
    split at h
    · cases h
    split at h
    · contradiction
    split at h
    · contradiction
    split at h
    · contradiction
    split at h
    · contradiction
    split at h
    · cases h
    rename_i h1 h2 h3 h4 h5 h6
    simp only [ne_eq, Classical.not_not] at h1 h2 h3 h4 h5
    exact ⟨h1, spanErr_zero.1 h2, spanErr_zero.1 h3, spanErr_zero.1 h4, spanErr_zero.1 h5, by omega⟩
  · rintro ⟨h1, h2, h3, h4, h5, h6⟩
    rw [if_neg (by simpa using h1), if_neg (by simpa using spanErr_zero.2 h2), if_neg (by simpa using spanErr_zero.2 h3), if_neg (by simpa using spanErr_zero.2 h4), if_neg (by simpa using spanErr_zero.2 h5), if_neg (by omega)]
def filErr (n : Nat) (l : List Fil) (i : Nat) : Int :=
  if ¬ (0 ≤ (nth l i).box ∧ (nth l i).box ≤ (n : Int) - 1) then 3
  else if ¬ ((0 ≤ (nth l i).hour ∧ (nth l i).hour ≤ 239) ∧ (0 ≤ (nth l i).grams ∧ (nth l i).grams ≤ 100000)) then 1
  else if 0 < i ∧ (nth l i).hour < (nth l (i - 1)).hour then 5 else 0
def filsErr (n : Nat) (l : List Fil) : Int := if 20 < l.length then 6 else firstNZ (filErr n l) (List.range l.length)
def ratErr (l : List Rat) (i : Nat) : Int :=
  if ¬ ((-300 ≤ (nth l i).above ∧ (nth l i).above ≤ 400) ∧ (0 ≤ (nth l i).loss ∧ (nth l i).loss ≤ 1000)) then 1
  else if 0 < i ∧ ((nth l i).above ≤ (nth l (i - 1)).above ∨ (nth l i).loss < (nth l (i - 1)).loss) then 5 else 0
def ratsErr (l : List Rat) : Int := if l = [] then 7 else if 6 < l.length then 6 else firstNZ (ratErr l) (List.range l.length)
def checkC (c : Cel) : Int :=
  if spanErr c.hall (-300) 400 ≠ 0 then spanErr c.hall (-300) 400 else if 6 < c.boxes.length then 6
  else if firstNZ boxErr c.boxes ≠ 0 then firstNZ boxErr c.boxes else if filsErr c.boxes.length c.fils ≠ 0 then filsErr c.boxes.length c.fils else ratsErr c.rats
structure FilOk (n : Nat) (f : Fil) : Prop where
  box : 0 ≤ f.box ∧ f.box < n
  hour : 0 ≤ f.hour ∧ f.hour ≤ 239
  grams : 0 ≤ f.grams ∧ f.grams ≤ 100000
structure RatOk (r : Rat) : Prop where
  above : -300 ≤ r.above ∧ r.above ≤ 400
  loss : 0 ≤ r.loss ∧ r.loss ≤ 1000
structure ValidC (c : Cel) : Prop where
  hall : -300 ≤ c.hall.lo ∧ c.hall.lo ≤ c.hall.hi ∧ c.hall.hi ≤ 400
  b6 : c.boxes.length ≤ 6
  bx : ∀ b ∈ c.boxes, BoxOk b
  f20 : c.fils.length ≤ 20
  fl : ∀ f ∈ c.fils, FilOk c.boxes.length f
  fls : ∀ i, i + 1 < c.fils.length → (nth c.fils i).hour ≤ (nth c.fils (i + 1)).hour
  r0 : 0 < c.rats.length
  r6 : c.rats.length ≤ 6
  rt : ∀ r ∈ c.rats, RatOk r
  rts : ∀ i, i + 1 < c.rats.length → (nth c.rats i).above < (nth c.rats (i + 1)).above ∧ (nth c.rats i).loss ≤ (nth c.rats (i + 1)).loss
theorem range_zero {f : Nat → Int} {n : Nat} : firstNZ f (List.range n) = 0 ↔ ∀ i, i < n → f i = 0 := by rw [firstNZ_zero]; simp
theorem filErr_zero {n : Nat} {l : List Fil} {i : Nat} : filErr n l i = 0 ↔ FilOk n (nth l i) ∧ (0 < i → (nth l (i - 1)).hour ≤ (nth l i).hour) := by
  unfold filErr
  constructor
  · intro h
    split at h
    · cases h
    split at h
    · cases h
    split at h
    · cases h
    rename_i h1 h2 h3
    exact ⟨⟨by omega, by omega, by omega⟩, fun h => by omega⟩
  · rintro ⟨⟨h1, h2, h3⟩, h4⟩
    rw [if_neg (by omega), if_neg (by omega), if_neg (by omega)]
theorem ratErr_zero {l : List Rat} {i : Nat} : ratErr l i = 0 ↔ RatOk (nth l i) ∧ (0 < i → (nth l (i - 1)).above < (nth l i).above ∧ (nth l (i - 1)).loss ≤ (nth l i).loss) := by
  unfold ratErr
  constructor
  · intro h
    split at h
    · cases h
    split at h
    · cases h
    rename_i h1 h2
    exact ⟨⟨by omega, by omega⟩, fun h => by omega⟩
  · rintro ⟨⟨h1, h2⟩, h4⟩
    rw [if_neg (by omega), if_neg (by omega)]
structure FilsOk (n : Nat) (l : List Fil) : Prop where
  f20 : l.length ≤ 20
  fl : ∀ f ∈ l, FilOk n f
  fls : ∀ i, i + 1 < l.length → (nth l i).hour ≤ (nth l (i + 1)).hour
theorem filsErr_zero {n : Nat} {l : List Fil} : filsErr n l = 0 ↔ FilsOk n l := by
  unfold filsErr
  constructor
  · intro h
    split at h
    · cases h
    rename_i h7
    have e2 := fun i hi => filErr_zero.1 (range_zero.1 h i hi)
    refine ⟨by omega, fun f hf => ?_, fun i hi => ?_⟩
    · obtain ⟨i, hi, rfl⟩ := List.getElem_of_mem hf
      have := (e2 i hi).1
      rwa [nth_get hi] at this
    · exact (e2 (i + 1) hi).2 (by omega)
  · rintro ⟨h1, h2, h3⟩
    rw [if_neg (by omega)]
    exact range_zero.2 fun i hi => filErr_zero.2 ⟨by rw [nth_get hi]; exact h2 _ (List.getElem_mem hi), fun h0 => by
      have := h3 (i - 1) (by omega)
      rwa [show i - 1 + 1 = i from by omega] at this⟩
structure RatsOk (l : List Rat) : Prop where
  r0 : 0 < l.length
  r6 : l.length ≤ 6
  rt : ∀ r ∈ l, RatOk r
  rts : ∀ i, i + 1 < l.length → (nth l i).above < (nth l (i + 1)).above ∧ (nth l i).loss ≤ (nth l (i + 1)).loss
theorem ratsErr_zero {l : List Rat} : ratsErr l = 0 ↔ RatsOk l := by
  unfold ratsErr
  constructor
  · intro h
    split at h
    · cases h
    split at h
    · cases h
    rename_i h5 h6
    have e3 := fun i hi => ratErr_zero.1 (range_zero.1 h i hi)
    refine ⟨List.length_pos_iff.2 h5, by omega, fun f hf => ?_, fun i hi => ?_⟩
    · obtain ⟨i, hi, rfl⟩ := List.getElem_of_mem hf
      have := (e3 i hi).1
      rwa [nth_get hi] at this
    · exact (e3 (i + 1) hi).2 (by omega)
  · rintro ⟨h1, h2, h3, h4⟩
    rw [if_neg (List.length_pos_iff.1 h1), if_neg (by omega)]
    exact range_zero.2 fun i hi => ratErr_zero.2 ⟨by rw [nth_get hi]; exact h3 _ (List.getElem_mem hi), fun h0 => by
      have := h4 (i - 1) (by omega)
      rwa [show i - 1 + 1 = i from by omega] at this⟩
theorem checkC_zero {c : Cel} : checkC c = 0 ↔ ValidC c := by
  unfold checkC
  constructor
  · intro h
    split at h
    · contradiction
    split at h
    · cases h
    split at h
    · contradiction
    split at h
    · contradiction
    rename_i h1 h2 h3 h4
    simp only [ne_eq, Classical.not_not] at h1 h3 h4
    have e1 := firstNZ_zero.1 h3
    have e2 := filsErr_zero.1 h4
    have e3 := ratsErr_zero.1 h
    exact ⟨spanErr_zero.1 h1, by omega, fun b hb => boxErr_zero.1 (e1 b hb), e2.f20, e2.fl, e2.fls, e3.r0, e3.r6, e3.rt, e3.rts⟩
  · rintro ⟨h1, h2, h3, h4, h5, h6, h7, h8, h9, h10⟩
    have e1 := firstNZ_zero.2 fun b hb => boxErr_zero.2 (h3 b hb)
    rw [if_neg (by simpa using spanErr_zero.2 h1), if_neg (by omega), if_neg (by simpa using e1), if_neg (by simpa using filsErr_zero.2 ⟨h4, h5, h6⟩)]
    exact ratsErr_zero.2 ⟨h7, h8, h9, h10⟩
/-- stays, the first of which may begin at an hour -/
def staysErr (n : Nat) : Int → List Sty → Int
  | _, [] => 0
  | fr, s :: r => if ¬ (0 ≤ s.box ∧ s.box ≤ (n : Int) - 1) then 3 else if ¬ ((0 ≤ s.frm ∧ s.frm ≤ 240) ∧ (0 ≤ s.til ∧ s.til ≤ 240)) then 1
    else if s.til ≤ s.frm ∨ s.frm < fr then 5 else staysErr n s.til r
def lotErr (n : Nat) (l : CLot) : Int :=
  if ¬ ((0 ≤ l.born ∧ l.born ≤ 239) ∧ (0 ≤ l.keeps ∧ l.keeps ≤ 100000)) then 1 else if 8 < l.stays.length then 6 else staysErr n l.born l.stays
def checkLotC (c : Cel) (l : CLot) : Int := if checkC c ≠ 0 then checkC c else lotErr c.boxes.length l
/-- stays one behind the other -/
def StaysOk (n : Nat) : Int → List Sty → Prop
  | _, [] => True
  | fr, s :: r => (0 ≤ s.box ∧ s.box < n) ∧ (0 ≤ s.frm ∧ s.til ≤ 240) ∧ s.frm < s.til ∧ fr ≤ s.frm ∧ StaysOk n s.til r
theorem staysErr_zero {n : Nat} : ∀ {l : List Sty} {fr : Int}, staysErr n fr l = 0 ↔ StaysOk n fr l
  | [], _ => by simp [staysErr, StaysOk]
  | s :: r, fr => by
    simp only [staysErr, StaysOk, ← staysErr_zero (l := r)]
    constructor
    · intro h
      split at h
      · cases h
      split at h
      · cases h
      split at h
      · cases h
      exact ⟨by omega, by omega, by omega, by omega, h⟩
    · rintro ⟨h1, h2, h3, h4, h5⟩
      rw [if_neg (by omega), if_neg (by omega), if_neg (by omega)]; exact h5
structure LotOk (n : Nat) (l : CLot) : Prop where
  born : 0 ≤ l.born ∧ l.born ≤ 239
  keeps : 0 ≤ l.keeps ∧ l.keeps ≤ 100000
  s8 : l.stays.length ≤ 8
  st : StaysOk n l.born l.stays
theorem lotErr_zero {n : Nat} {l : CLot} : lotErr n l = 0 ↔ LotOk n l := by
  unfold lotErr
  constructor
  · intro h
    split at h
    · cases h
    split at h
    · cases h
    exact ⟨by omega, by omega, by omega, staysErr_zero.1 h⟩
  · rintro ⟨h1, h2, h3, h4⟩
    rw [if_neg (by omega), if_neg (by omega)]; exact staysErr_zero.2 h4
theorem StaysOk.mem {n : Nat} : ∀ {l : List Sty} {fr : Int}, StaysOk n fr l → ∀ s ∈ l, (0 ≤ s.box ∧ s.box < n) ∧ fr ≤ s.frm ∧ s.frm < s.til ∧ s.til ≤ 240
  | s :: r, fr, h, x, hx => by
    obtain ⟨h1, h2, h3, h4, h5⟩ := h
    rcases List.mem_cons.1 hx with rfl | hx
    · exact ⟨h1, h4, h3, h2.2⟩
    · obtain ⟨g1, g2, g3, g4⟩ := h5.mem x hx
      exact ⟨g1, by omega, g3, g4⟩

/-! ### ice -/
/-- the ice in a box after the fillings of an hour -/
def putAll (room b h : Int) (l : List Fil) (x : Int) : Int := l.foldl (fun x f => if f.box = b ∧ f.hour = h then min room (x + f.grams) else x) x
/-- the ice in a box, hour by hour -/
def fallN (room b : Int) (l : List Fil) (melt : Nat → Int) (x : Int) : Nat → Int
  | 0 => putAll room b 0 l x
  | h + 1 => putAll room b ((h : Int) + 1) l (max 0 (fallN room b l melt x h - melt h))
def iceLo (c : Cel) (b h : Nat) : Int := fallN (nth c.boxes b).room b c.fils (fun _ => (nth c.boxes b).melt.hi) (nth c.boxes b).ice.lo h
def iceHi (c : Cel) (b h : Nat) : Int := fallN (nth c.boxes b).room b c.fils (fun _ => (nth c.boxes b).melt.lo) (nth c.boxes b).ice.hi h
def iceS (c : Cel) (b h : Nat) : Spn := ⟨iceLo c b h, iceHi c b h⟩
theorem putAll_snoc {room b h x : Int} {l : List Fil} {i : Nat} (hi : i < l.length) : putAll room b h (l.take (i + 1)) x = if l[i].box = b ∧ l[i].hour = h then min room (putAll room b h (l.take i) x + l[i].grams) else putAll room b h (l.take i) x := by
  rw [List.take_succ_eq_append_getElem hi, putAll, List.foldl_append]; rfl
theorem putAll_mono {room room' b h : Int} (hr : room ≤ room') : ∀ {l : List Fil} {x y : Int}, x ≤ y → putAll room b h l x ≤ putAll room' b h l y
  | [], x, y, hxy => hxy
  | f :: l, x, y, hxy => by
    simp only [putAll, List.foldl_cons]
    refine putAll_mono hr ?_
    split <;> omega
theorem putAll_in {room b h : Int} (hr : 0 ≤ room) : ∀ {l : List Fil} {x : Int}, (∀ f ∈ l, 0 ≤ f.grams) → 0 ≤ x → x ≤ room → 0 ≤ putAll room b h l x ∧ putAll room b h l x ≤ room
  | [], x, _, h1, h2 => ⟨h1, h2⟩
  | f :: l, x, hl, h1, h2 => by
    have hg := hl f (by simp)
    simp only [putAll, List.foldl_cons]
    refine putAll_in hr (fun f hf => hl f (by simp [hf])) ?_ ?_ <;> split <;> omega
theorem fallN_mono {room room' b : Int} (hr : room ≤ room') {l : List Fil} {m m' : Nat → Int} {x y : Int} (hxy : x ≤ y) : ∀ {h : Nat}, (∀ k, k < h → m' k ≤ m k) → fallN room b l m x h ≤ fallN room' b l m' y h
  | 0, _ => putAll_mono hr hxy
  | h + 1, hm => by
    have ih := fallN_mono (b := b) (l := l) hr hxy (h := h) (fun k hk => hm k (by omega))
    have h1 := hm h (by omega)
    exact putAll_mono hr (by omega)
theorem fallN_in {room b : Int} (hr : 0 ≤ room) {l : List Fil} {m : Nat → Int} {x : Int} (hl : ∀ f ∈ l, 0 ≤ f.grams) (hx : 0 ≤ x) (hxr : x ≤ room) (hm : ∀ k, 0 ≤ m k) : ∀ h, 0 ≤ fallN room b l m x h ∧ fallN room b l m x h ≤ room
  | 0 => putAll_in hr hl hx hxr
  | h + 1 => by
    have ih := fallN_in (b := b) hr hl hx hxr hm h
    have := hm h
    exact putAll_in hr hl (by omega) (by omega)
theorem ValidC.box {c : Cel} (h : ValidC c) {b : Nat} (hb : b < c.boxes.length) : BoxOk (nth c.boxes b) := by rw [nth_get hb]; exact h.bx _ (List.getElem_mem hb)
theorem ValidC.grams {c : Cel} (h : ValidC c) : ∀ f ∈ c.fils, 0 ≤ f.grams := fun f hf => (h.fl f hf).grams.1
def verd (all some : Bool) : Int := if all then 1 else if some then 3 else 2
def coldV (x : Spn) : Int := verd (decide (0 < x.lo)) (decide (0 < x.hi))

/-! ### losses -/
def lossR (l : List Rat) (w : Int) : Int := l.foldl (fun n r => if r.above ≤ w then r.loss else n) 0
/-- where a lot is in an hour -/
def inBox : List Sty → Int → Option Int
  | [], _ => none
  | s :: r, h => if s.frm ≤ h ∧ h < s.til then some s.box else inBox r h
def airS (c : Cel) (l : CLot) (h : Int) : Spn :=
  match inBox l.stays h with
  | none => c.hall
  | some b => if coldV (iceS c b.toNat h.toNat) = 1 then (nth c.boxes b.toNat).cld else if coldV (iceS c b.toNat h.toNat) = 2 then (nth c.boxes b.toNat).wrm
    else ⟨(nth c.boxes b.toNat).cld.lo, (nth c.boxes b.toNat).wrm.hi⟩
/-- what a lot has lost after so many hours -/
def lostS (c : Cel) (l : CLot) : Nat → Spn
  | 0 => ⟨0, 0⟩
  | k + 1 => ⟨(lostS c l k).lo + lossR c.rats (airS c l (l.born + k)).lo, (lostS c l k).hi + lossR c.rats (airS c l (l.born + k)).hi⟩
theorem lossR_in {l : List Rat} (h : ∀ r ∈ l, RatOk r) (w : Int) : 0 ≤ lossR l w ∧ lossR l w ≤ 1000 := by
  have : ∀ (l : List Rat) (n : Int), (∀ r ∈ l, RatOk r) → 0 ≤ n → n ≤ 1000 → 0 ≤ l.foldl (fun n r => if r.above ≤ w then r.loss else n) n ∧ l.foldl (fun n r => if r.above ≤ w then r.loss else n) n ≤ 1000 := by
    intro l
    induction l with
    | nil => intro n _ h1 h2; exact ⟨h1, h2⟩
    | cons r l ih =>
      intro n hl h1 h2
      have := (hl r (by simp)).loss
      simp only [List.foldl_cons]
      refine ih _ (fun r hr => hl r (by simp [hr])) ?_ ?_ <;> split <;> omega
  exact this l 0 h (by omega) (by omega)
theorem lostS_in {c : Cel} (h : ValidC c) (l : CLot) : ∀ k, (0 ≤ (lostS c l k).lo ∧ (lostS c l k).lo ≤ 1000 * (k : Int)) ∧ (0 ≤ (lostS c l k).hi ∧ (lostS c l k).hi ≤ 1000 * (k : Int))
  | 0 => by simp [lostS]
  | k + 1 => by
    have ih := lostS_in h l k
    have h1 := lossR_in h.rt (airS c l (l.born + k)).lo
    have h2 := lossR_in h.rt (airS c l (l.born + k)).hi
    simp only [lostS]; omega
end Go.Sim
