/- What the operations do on abstract values: arithmetic, comparison, structs, builtins. -/
import Derived.Test.YtggbbldoopfejaaSc
namespace Go.Sim
open Go.RowKit
section
variable {P : Program} {Γ : TypeId → Option TI}

theorem opaqueI (g : IntKind → Int → Int → Int) : ∃ f : IntKind → Int → Int → Int, ∀ k a b, f k a b = g k a b := ⟨g, fun _ _ _ => rfl⟩
noncomputable def andI : IntKind → Int → Int → Int := Classical.choose (opaqueI fun k a b => k.wrap ((BitVec.ofInt k.bits a &&& BitVec.ofInt k.bits b).toNat))
theorem andI_eq (k : IntKind) (a b : Int) : andI k a b = k.wrap ((BitVec.ofInt k.bits a &&& BitVec.ofInt k.bits b).toNat) := Classical.choose_spec (opaqueI fun k a b => k.wrap ((BitVec.ofInt k.bits a &&& BitVec.ofInt k.bits b).toNat)) k a b
noncomputable def orI : IntKind → Int → Int → Int := Classical.choose (opaqueI fun k a b => k.wrap ((BitVec.ofInt k.bits a ||| BitVec.ofInt k.bits b).toNat))
theorem orI_eq (k : IntKind) (a b : Int) : orI k a b = k.wrap ((BitVec.ofInt k.bits a ||| BitVec.ofInt k.bits b).toNat) := Classical.choose_spec (opaqueI fun k a b => k.wrap ((BitVec.ofInt k.bits a ||| BitVec.ofInt k.bits b).toNat)) k a b
noncomputable def xorI : IntKind → Int → Int → Int := Classical.choose (opaqueI fun k a b => k.wrap ((BitVec.ofInt k.bits a ^^^ BitVec.ofInt k.bits b).toNat))
theorem xorI_eq (k : IntKind) (a b : Int) : xorI k a b = k.wrap ((BitVec.ofInt k.bits a ^^^ BitVec.ofInt k.bits b).toNat) := Classical.choose_spec (opaqueI fun k a b => k.wrap ((BitVec.ofInt k.bits a ^^^ BitVec.ofInt k.bits b).toNat)) k a b
noncomputable def shrI : IntKind → Int → Int → Int := Classical.choose (opaqueI fun k a b => a.fdiv (2 ^ (min b.toNat k.bits)))
theorem shrI_eq (k : IntKind) (a b : Int) : shrI k a b = a.fdiv (2 ^ (min b.toNat k.bits)) := Classical.choose_spec (opaqueI fun k a b => a.fdiv (2 ^ (min b.toNat k.bits))) k a b
noncomputable def shlI : IntKind → Int → Int → Int := Classical.choose (opaqueI fun k a b => k.wrap (a * 2 ^ (min b.toNat k.bits)))
theorem shlI_eq (k : IntKind) (a b : Int) : shlI k a b = k.wrap (a * 2 ^ (min b.toNat k.bits)) := Classical.choose_spec (opaqueI fun k a b => k.wrap (a * 2 ^ (min b.toNat k.bits))) k a b
noncomputable def mulI : IntKind → Int → Int → Int := Classical.choose (opaqueI fun k a b => k.wrap (a * b))
theorem mulI_eq (k : IntKind) (a b : Int) : mulI k a b = k.wrap (a * b) := Classical.choose_spec (opaqueI fun k a b => k.wrap (a * b)) k a b
noncomputable def intBin (op : BinOp) (k : IntKind) (a : Int) (k' : IntKind) (b : Int) : Option Value :=
  match op with
  | .shl => if b < 0 then none else some (.int k (shlI k a b))
  | .shr => if b < 0 then none else some (.int k (shrI k a b))
  | op => if k ≠ k' then none else match op with
    | .add => some (.int k (k.wrap (a + b)))
    | .sub => some (.int k (k.wrap (a - b)))
    | .mul => some (.int k (mulI k a b))
    | .quo => if b = 0 then none else some (.int k (k.wrap (a.tdiv b)))
    | .rem => if b = 0 then none else some (.int k (a.tmod b))
    | .and => some (.int k (andI k a b))
    | .or => some (.int k (orI k a b))
    | .xor => some (.int k (xorI k a b))
    | .eql => some (.bool (a == b))
    | .neq => some (.bool (a != b))
    | .lss => some (.bool (a < b))
    | .leq => some (.bool (a ≤ b))
    | .gtr => some (.bool (a > b))
    | .geq => some (.bool (a ≥ b))
    | _ => none

theorem run_eqGuard_int (op : BinOp) (t : TypeId) (x y : Operand) (k k' : IntKind) (a b : Int) (w : World) : (eqGuard op t x y (.int k a) (.int k' b)).run P w = .ok () w := by
  unfold eqGuard; split <;> simp
theorem run_eqGuard_bool (op : BinOp) (t : TypeId) (x y : Operand) (a b : Bool) (w : World) : (eqGuard op t x y (.bool a) (.bool b)).run P w = .ok () w := by
  unfold eqGuard; split <;> simp
theorem run_eqGuard_string (op : BinOp) (t : TypeId) (x y : Operand) (a b : ByteArray) (w : World) : (eqGuard op t x y (.string a) (.string b)).run P w = .ok () w := by
  unfold eqGuard; split <;> simp
theorem run_eqGuard_slice (op : BinOp) (t : TypeId) (x y : Operand) (a : Option Addr) (n c : Nat) (v : Value) (w : World) : (eqGuard op t x y (.slice a n c) v).run P w = .ok () w := by
  unfold eqGuard; split <;> simp
theorem run_eqGuard_func (op : BinOp) (t : TypeId) (x y : Operand) (f : Fn) (n c : Array Value) (v : Value) (w : World) : (eqGuard op t x y (.func f n c) v).run P w = .ok () w := by
  unfold eqGuard; split <;> simp
theorem run_eqGuard_ptr (op : BinOp) (t : TypeId) (x y : Operand) (a : Option Addr) (v : Value) (w : World) : (eqGuard op t x y (.pointer a) v).run P w = .ok () w := by
  unfold eqGuard; split <;> simp

theorem run_intBin {op : BinOp} {k k' : IntKind} {a b : Int} {v : Value} (h : intBin op k a k' b = some v) (t : TypeId) (w : World) : (binOp op t (.int k a) (.int k' b)).run P w = .ok v w := by
  cases op <;> simp only [intBin] at h <;> (repeat' split at h) <;>
    first
      | (have hb : ¬ b < 0 := by assumption
         cases h; simp [binOp, Op.shift, hb, shlI_eq, shrI_eq])
      | (simp_all [binOp, Op.intArith, Op.intDiv, Op.intBits, Op.intCmp, andI_eq, orI_eq, xorI_eq, mulI_eq])

def strBin (op : BinOp) (a b : ByteArray) : Option Value :=
  match op with
  | .add => if a.size + b.size ≤ maxLen then some (.string (a ++ b)) else none
  | .eql => some (.bool (a.toList == b.toList))
  | .neq => some (.bool (!(a.toList == b.toList)))
  | .lss => some (.bool (Op.bytesLess a.toList b.toList))
  | .leq => some (.bool (Op.bytesLess a.toList b.toList || a.toList == b.toList))
  | .gtr => some (.bool (!(Op.bytesLess a.toList b.toList || a.toList == b.toList)))
  | .geq => some (.bool (!Op.bytesLess a.toList b.toList))
  | _ => none

theorem run_strBin {op : BinOp} {a b : ByteArray} {v : Value} (h : strBin op a b = some v) (t : TypeId) (w : World) : (binOp op t (.string a) (.string b)).run P w = .ok v w := by
  cases op <;> simp only [strBin] at h <;> first
    | cases h; done
    | (split at h
       · rename_i hle
         cases h
         have : ¬ (((a.size + b.size : Nat) : Int) > IntKind.i64.max) := by
           have : IntKind.i64.max = 9223372036854775807 := by decide
           rw [this]; unfold maxLen at hle; omega
         simp only [binOp, Op.stringOp]
         rw [if_neg this]; rfl
       · cases h)
    | (cases h; simp [binOp, Op.stringOp])

/-- equality of flat structs' cells -/
def AV.vals : List AV → Option (List Value)
  | [] => some []
  | .val v :: r => (AV.vals r).map (v :: ·)
  | _ => none

theorem AV.vals_rd {w : World} {e : Env} : ∀ {l : List AV} {us : List Value} {vs : List Value}, AV.vals l = some us → vs.length = l.length →
    (∀ (i : Nat) (x : AV) (v : Value), l[i]? = some x → vs[i]? = some v → Rd w e x v) → vs = us
  | [], us, vs, h, hl, _ => by
    cases h; exact List.eq_nil_of_length_eq_zero (by simpa using hl)
  | x :: r, us, vs, h, hl, hr => by
    cases x with
    | val v =>
      simp only [AV.vals, Option.map_eq_some_iff] at h
      obtain ⟨us', hu, rfl⟩ := h
      cases vs with
      | nil => simp at hl
      | cons v' vs' =>
        have h0 := hr 0 _ v' rfl rfl
        obtain rfl := h0.val_inv
        rw [AV.vals_rd (vs := vs') hu (by simpa using hl) (fun i x u hx hu => hr (i + 1) x u (by simpa using hx) (by simpa using hu))]
    | _ => simp [AV.vals] at h

theorem eqIn_slice {d : Nat} {t el : TypeId} {w : World} (h : P.underlying t = some (.slice el)) (a : Option Addr) (n c n' c' : Nat) : (Op.equalIn (d + 1) t (.slice a n c) (.slice none n' c')).run P w = .ok a.isNone w := by
  cases a <;> simp [Op.equalIn, run_underlying h]
theorem eqIn_func {d : Nat} {t : TypeId} {ps rs : Array TypeId} {v : Bool} {w : World} (h : P.underlying t = some (.func ps rs v)) (f : Fn) (a b : Array Value) : (Op.equalIn (d + 1) t (.func f a b) .nilFunc).run P w = .ok false w := by
  simp [Op.equalIn, run_underlying h]
theorem eqIn_func_nil {d : Nat} {t : TypeId} {ps rs : Array TypeId} {v : Bool} {w : World} (h : P.underlying t = some (.func ps rs v)) : (Op.equalIn (d + 1) t .nilFunc .nilFunc).run P w = .ok true w := by
  simp [Op.equalIn, run_underlying h]
theorem eqIn_ptr {d : Nat} {t el : TypeId} {w : World} (h : P.underlying t = some (.pointer el)) (a : Option Addr) : (Op.equalIn (d + 1) t (.pointer a) (.pointer none)).run P w = .ok a.isNone w := by
  cases a <;> simp [Op.equalIn, run_underlying h]
theorem eqIn_map {d : Nat} {t k el : TypeId} {w : World} (h : P.underlying t = some (.map k el)) (a : Option Nat) : (Op.equalIn (d + 1) t (.map a) (.map none)).run P w = .ok a.isNone w := by
  cases a <;> simp [Op.equalIn, run_underlying h]

/-- what a value is that may be asked whether it is nil -/
inductive NilKind (P : Program) (t : TypeId) : Value → Value → Bool → Prop
  | slice (el : TypeId) (h : P.underlying t = some (.slice el)) (a : Option Addr) (n c n' c' : Nat) : NilKind P t (.slice a n c) (.slice none n' c') a.isNone
  | func (ps rs : Array TypeId) (v : Bool) (h : P.underlying t = some (.func ps rs v)) (f : Fn) (a b : Array Value) : NilKind P t (.func f a b) .nilFunc false
  | funcNil (ps rs : Array TypeId) (v : Bool) (h : P.underlying t = some (.func ps rs v)) : NilKind P t .nilFunc .nilFunc true
  | ptr (el : TypeId) (h : P.underlying t = some (.pointer el)) (a : Option Addr) : NilKind P t (.pointer a) (.pointer none) a.isNone
  | map (k el : TypeId) (h : P.underlying t = some (.map k el)) (a : Option Nat) : NilKind P t (.map a) (.map none) a.isNone

theorem NilKind.eql {t : TypeId} {x y : Value} {r : Bool} (h : NilKind P t x y r) (w : World) : (binOp .eql t x y).run P w = .ok (.bool r) w ∧ (binOp .neq t x y).run P w = .ok (.bool (!r)) w ∧ ∀ op o1 o2, (eqGuard op t o1 o2 x y).run P w = .ok () w := by
  have key : ∀ (q : Sem Bool), q.run P w = .ok r w → (do pure (Value.bool (← q)) : Sem Value).run P w = .ok (.bool r) w ∧ (do pure (Value.bool (!(← q))) : Sem Value).run P w = .ok (.bool (!r)) w := by
    intro q hq; simp [hq]
  cases h with
  | slice el h a n c n' c' => exact ⟨(key _ (eqIn_slice (d := 9999) h a n c n' c')).1, (key _ (eqIn_slice (d := 9999) h a n c n' c')).2, fun op o1 o2 => by unfold eqGuard; split <;> simp⟩
  | func ps rs v h f a b => exact ⟨(key _ (eqIn_func (d := 9999) h f a b)).1, (key _ (eqIn_func (d := 9999) h f a b)).2, fun op o1 o2 => by unfold eqGuard; split <;> simp⟩
  | funcNil ps rs v h => exact ⟨(key _ (eqIn_func_nil (d := 9999) h)).1, (key _ (eqIn_func_nil (d := 9999) h)).2, fun op o1 o2 => by unfold eqGuard; split <;> simp⟩
  | ptr el h a => exact ⟨(key _ (eqIn_ptr (d := 9999) h a)).1, (key _ (eqIn_ptr (d := 9999) h a)).2, fun op o1 o2 => by unfold eqGuard; split <;> simp⟩
  | map k el h a => exact ⟨(key _ (eqIn_map (d := 9999) h a)).1, (key _ (eqIn_map (d := 9999) h a)).2, fun op o1 o2 => by unfold eqGuard; split <;> simp⟩

/-- is the value nil, at a type of this kind -/
def nilQ (d : TypeDesc) (x y : AV) : Option Bool :=
  match d, y with
  | .slice _, .val (.slice none _ _) => (match x with
    | .val (.slice none _ _) => some true
    | .own _ _ (_ + 1) => some false
    | .imm (_ :: _) => some false
    | _ => none)
  | .func _ _ _, .val .nilFunc => (match x with
    | .val .nilFunc => some true
    | .val (.func _ _ _) => some false
    | .clo _ _ => some false
    | _ => none)
  | .pointer _, .val (.pointer none) => (match x with
    | .val (.pointer none) => some true
    | .ptr _ _ _ => some false
    | .iptr _ => some false
    | _ => none)
  | .map _ _, .val (.map none) => (match x with
    | .val (.map none) => some true
    | .map _ => some false
    | _ => none)
  | _, _ => none

theorem nilQ_kind {t : TypeId} {ti : TI} (h : TIOk P t ti) {w : World} {e : Env} {x y : AV} {vx vy : Value} {r : Bool} (hx : Rd w e x vx) (hy : Rd w e y vy) (hr : nilQ ti.desc x y = some r) : NilKind P t vx vy r := by
  have hu := h.und
  unfold nilQ at hr
  split at hr
  · rename_i d el n' c' hd
    rw [hd] at hu
    obtain rfl := hy.val_inv
    split at hr
    · cases hr; obtain rfl := hx.val_inv; exact .slice el hu none _ _ _ _
    · cases hr
      cases hx with
      | data hx => cases hx
      | own _ _ _ m b hm hb hc => exact .slice el hu (some _) _ _ _ _
      | ownX _ _ _ m hm hg a cap ha hc =>
        cases a with
        | none => exact absurd (ha (by omega)) (by simp)
        | some a => exact .slice el hu (some _) _ _ _ _
    · cases hr
      cases hx with
      | data hx => cases hx with | imm _ b off cap sz vals hne hz hq hlen hcap hsz' hc hrr => exact .slice el hu (some _) _ _ _ _
    · cases hr
  · rename_i d ps rs v hd
    rw [hd] at hu
    obtain rfl := hy.val_inv
    split at hr
    · cases hr; obtain rfl := hx.val_inv; exact .funcNil ps rs v hu
    · cases hr; obtain rfl := hx.val_inv; exact .func ps rs v hu _ _ _
    · cases hr; obtain ⟨vs, rfl, _, _⟩ := hx.clo_inv; exact .func ps rs v hu _ _ _
    · cases hr
  · rename_i d el hd
    rw [hd] at hu
    obtain rfl := hy.val_inv
    split at hr
    · cases hr; obtain rfl := hx.val_inv; exact .ptr el hu none
    · cases hr; obtain ⟨a, rfl⟩ := ptr_some hx; exact .ptr el hu (some _)
    · cases hr
      cases hx with
      | data hx => cases hx
      | iptr _ b off vals hne hq hc hr => exact .ptr el hu (some _)
    · cases hr
  · rename_i d k el hd
    rw [hd] at hu
    obtain rfl := hy.val_inv
    split at hr
    · cases hr; obtain rfl := hx.val_inv; exact .map k el hu none
    · cases hr
      cases hx with
      | data hx => cases hx
      | map _ m b hm hb => exact .map k el hu (some _)
      | mapX => exact .map k el hu (some _)
    · cases hr
  · cases hr

noncomputable def binA (ti : Option TI) (op : BinOp) (x y : AV) : Option AV :=
  match x, y with
  | .val (.int k a), .val (.int k' b) => (intBin op k a k' b).map .val
  | .val (.string a), .val (.string b) => (strBin op a b).map .val
  | .val (.bool a), .val (.bool b) => match op, ti with
    | .eql, some ⟨_, _, _, .bool, _⟩ => some (.val (.bool (a == b)))
    | .neq, some ⟨_, _, _, .bool, _⟩ => some (.val (.bool (!(a == b))))
    | _, _ => none
  | .agg xs, .agg ys => match op, ti, AV.vals xs, AV.vals ys with
    | .eql, some ti, some us, some vs => if ti.flat ∧ us.length = ti.size then (eqVals us vs).map fun r => .val (.bool r) else none
    | .neq, some ti, some us, some vs => if ti.flat ∧ us.length = ti.size then (eqVals us vs).map fun r => .val (.bool (!r)) else none
    | _, _, _, _ => none
  | x, y => match op, ti with
    | .eql, some ti => (nilQ ti.desc x y).map fun r => .val (.bool r)
    | .neq, some ti => (nilQ ti.desc x y).map fun r => .val (.bool (!r))
    | _, _ => none

theorem run_binA {t : TypeId} {ti : Option TI} (h : ∀ i, ti = some i → TIOk P t i) {w : World} {e : Env} {op : BinOp} {x y r : AV} {vx vy : Value} (hx : Rd w e x vx) (hy : Rd w e y vy) (hr : binA ti op x y = some r) (o1 o2 : Operand) :
    ∃ v, (do eqGuard op t o1 o2 vx vy; binOp op t vx vy : Sem Value).run P w = .ok v w ∧ Rd w e r v := by
  unfold binA at hr
  split at hr
  · obtain rfl := hx.val_inv
    obtain rfl := hy.val_inv
    obtain ⟨v, hv, rfl⟩ := Option.map_eq_some_iff.1 hr
    exact ⟨v, by rw [Sem.run_bind, run_eqGuard_int, Result.andThen_ok, run_intBin hv], .data (.val v)⟩
  · obtain rfl := hx.val_inv
    obtain rfl := hy.val_inv
    obtain ⟨v, hv, rfl⟩ := Option.map_eq_some_iff.1 hr
    exact ⟨v, by rw [Sem.run_bind, run_eqGuard_string, Result.andThen_ok, run_strBin hv], .data (.val v)⟩
  · obtain rfl := hx.val_inv
    obtain rfl := hy.val_inv
    rename_i a b
    split at hr
    · cases hr
      have hb : P.underlying t = some .bool := (h _ rfl).und
      refine ⟨.bool (a == b), ?_, .data (.val _)⟩
      rw [Sem.run_bind, run_eqGuard_bool, Result.andThen_ok]
      simp [binOp, Op.equal, Op.maxDepth, run_equalIn_bool' w 9999 t a b hb]
    · cases hr
      have hb : P.underlying t = some .bool := (h _ rfl).und
      refine ⟨.bool (!(a == b)), ?_, .data (.val _)⟩
      rw [Sem.run_bind, run_eqGuard_bool, Result.andThen_ok]
      simp [binOp, Op.equal, Op.maxDepth, run_equalIn_bool' w 9999 t a b hb]
    · cases hr
  · rename_i xs ys
    obtain ⟨us, rfl, hus, hxr⟩ := hx.agg_inv
    obtain ⟨vs, rfl, hvs, hyr⟩ := hy.agg_inv
    split at hr
    · rename_i ti us' vs' hu' hv'
      split at hr
      · rename_i hfl
        obtain ⟨r', hr', rfl⟩ := Option.map_eq_some_iff.1 hr
        have e1 := AV.vals_rd (vs := us.toList) hu' (by simpa using hus) (fun i x v hx hv => hxr i x v hx (by simpa using hv))
        have e2 := AV.vals_rd (vs := vs.toList) hv' (by simpa using hvs) (fun i x v hx hv => hyr i x v hx (by simpa using hv))
        have hi := (h ti rfl)
        obtain ⟨hg, heq⟩ := (hi.flat hfl.1).1
        obtain ⟨k, hk, hks, _⟩ := hi.parts
        have := heq w us' vs' r' hr' (by rw [hk]; simp [hks, hfl.2])
        refine ⟨.bool r', ?_, .data (.val _)⟩
        have q1 : us = us'.toArray := by rw [← e1]
        have q2 : vs = vs'.toArray := by rw [← e2]
        subst q1; subst q2
        rw [Sem.run_bind, run_eqGuard_agg w _ _ _ _ _ _ hg, Result.andThen_ok, run_eql_struct, this]; rfl
      · cases hr
    · rename_i ti us' vs' hu' hv'
      split at hr
      · rename_i hfl
        obtain ⟨r', hr', rfl⟩ := Option.map_eq_some_iff.1 hr
        have e1 := AV.vals_rd (vs := us.toList) hu' (by simpa using hus) (fun i x v hx hv => hxr i x v hx (by simpa using hv))
        have e2 := AV.vals_rd (vs := vs.toList) hv' (by simpa using hvs) (fun i x v hx hv => hyr i x v hx (by simpa using hv))
        have hi := (h ti rfl)
        obtain ⟨hg, heq⟩ := (hi.flat hfl.1).1
        obtain ⟨k, hk, hks, _⟩ := hi.parts
        have := heq w us' vs' r' hr' (by rw [hk]; simp [hks, hfl.2])
        refine ⟨.bool (!r'), ?_, .data (.val _)⟩
        have q1 : us = us'.toArray := by rw [← e1]
        have q2 : vs = vs'.toArray := by rw [← e2]
        subst q1; subst q2
        rw [Sem.run_bind, run_eqGuard_agg w _ _ _ _ _ _ hg, Result.andThen_ok, run_neq_struct, this]; rfl
      · cases hr
    · cases hr
  · split at hr
    · rename_i ti _ _ _ _ _
      obtain ⟨r', hr', rfl⟩ := Option.map_eq_some_iff.1 hr
      obtain ⟨g1, g2, g3⟩ := (nilQ_kind (h _ rfl) hx hy hr').eql w
      exact ⟨_, by rw [Sem.run_bind, g3, Result.andThen_ok, g1], .data (.val _)⟩
    · rename_i ti _ _ _ _ _
      obtain ⟨r', hr', rfl⟩ := Option.map_eq_some_iff.1 hr
      obtain ⟨g1, g2, g3⟩ := (nilQ_kind (h _ rfl) hx hy hr').eql w
      exact ⟨_, by rw [Sem.run_bind, g3, Result.andThen_ok, g2], .data (.val _)⟩
    · cases hr
#print axioms run_binA
end
end Go.Sim
