/- Seals: what is asked of them, and the best plan. -/
import Derived.Test.YtfcmfoacedbleaaDoorQa
namespace Go.Sim
structure Tst where
  day : Int
  sc : Int
  deriving DecidableEq
structure Sls where
  lef : List Int
  eve : List Int
  most : Int
  days : Int
def T2 (t : Tst) : AV := .agg [I t.day, I t.sc]
theorem T2_def (t : Tst) : T2 t = .agg [I t.day, I t.sc] := rfl
theorem T2_isData (t : Tst) : (T2 t).isData = true := rfl
instance : NthD Tst := ⟨⟨0, 0⟩⟩
abbrev tstV (l : List Tst) : AV := .imm (l.map T2)
abbrev slsV (s : Sls) : AV := .agg [ints s.lef, ints s.eve, I s.most, I s.days]
def seaC (s : Sls) : Int := if manyC s.lef.length 4 ≠ 0 then manyC s.lef.length 4 else if s.eve.length ≠ s.lef.length then 2
  else if inB s.days 0 10 = false ∨ inB s.most 0 4 = false ∨ (s.lef.any fun n => !inB n (-1) 10) = true ∨ (s.eve.any fun n => !inB n 0 10) = true then 1 else 0
structure ValidS (s : Sls) : Prop where
  l1 : 1 ≤ s.lef.length
  l4 : s.lef.length ≤ 4
  le : s.eve.length = s.lef.length
  days : 0 ≤ s.days ∧ s.days ≤ 10
  most : 0 ≤ s.most ∧ s.most ≤ 4
  lef : ∀ n ∈ s.lef, -1 ≤ n ∧ n ≤ 10
  eve : ∀ n ∈ s.eve, 0 ≤ n ∧ n ≤ 10
theorem any_inB {l : List Int} {a b : Int} : (l.any fun n => !inB n a b) = false ↔ ∀ n ∈ l, a ≤ n ∧ n ≤ b := by
  rw [List.any_eq_false]
  constructor
  · intro h n hn
    have := h n hn
    exact inB_iff.1 (by simpa using this)
  · intro h n hn
    rw [inB_iff.2 (h n hn)]; simp
theorem seaC_zero {s : Sls} : seaC s = 0 ↔ ValidS s := by
  unfold seaC
  constructor
  · intro h
    split at h
    · contradiction
    split at h
    · cases h
    split at h
    · cases h
    rename_i h1 h2 h3
    have k1 : manyC s.lef.length 4 = 0 := by omega
    simp only [not_or] at h3
    obtain ⟨h3, h4, h5, h6⟩ := h3
    have g1 : 1 ≤ s.lef.length ∧ s.lef.length ≤ 4 := by
      unfold manyC at k1
      split at k1
      · cases k1
      split at k1
      · cases k1
      omega
    exact ⟨g1.1, g1.2, by omega, inB_iff.1 (by simpa using h3), inB_iff.1 (by simpa using h4), any_inB.1 (by simpa using h5), any_inB.1 (by simpa using h6)⟩
  · intro v
    have k1 : manyC s.lef.length 4 = 0 := by
      have := v.l1
      have := v.l4
      unfold manyC; rw [if_neg (by omega), if_neg (by omega)]
    rw [if_neg (by omega), if_neg (by have := v.le; omega), if_neg]
    simp only [not_or]
    rw [inB_iff.2 v.days, inB_iff.2 v.most, any_inB.2 v.lef, any_inB.2 v.eve]
    simp
/-! plans -/
abbrev Pln := List Tst × Bool
def plnV (p : Pln) : AV := .agg [tstV p.1, B p.2]
theorem plnV_def (p : Pln) : plnV p = .agg [tstV p.1, B p.2] := rfl
def cmpI (a b : Int) : Int := if a < b then -1 else if b < a then 1 else 0
def cmp1 (x y : Tst) : Int := if cmpI x.day y.day ≠ 0 then cmpI x.day y.day else cmpI x.sc y.sc
def cmpT : List Tst → List Tst → Int
  | [], [] => 0
  | [], _ :: _ => -1
  | _ :: _, [] => 1
  | x :: xs, y :: ys => if cmp1 x y ≠ 0 then cmp1 x y else cmpT xs ys
def betterP (a b : Pln) : Bool := if a.2 = false ∨ b.2 = false then a.2 else if a.1.length ≠ b.1.length then decide (a.1.length < b.1.length) else decide (0 < cmpT a.1 b.1)
def bestF (o : Pln) : List Pln → Pln
  | [] => o
  | x :: xs => bestF (if betterP x o = true then x else o) xs
def bestP : List Pln → Pln
  | [] => ([], false)
  | x :: xs => bestF x xs
/-- the choice of some scales, up to the scale i: the tests, until when the scales are sealed, whether all are -/
def setS (s : Sls) (day : Int) (u : List Int) (set : Nat) : Nat → List Tst × List Int × Bool
  | 0 => ([], u, true)
  | i + 1 =>
    let (t, v, b) := setS s day u set i
    let t' := if set.testBit i then t ++ [⟨day, (i : Int)⟩] else t
    let v' := if set.testBit i then v.set i (min s.days (max (nth v i) (day + nth s.eve i))) else v
    (t', v', b && decide (day ≤ nth v' i))
/-- the plans that choices before some one lead to -/
def allK (s : Sls) (next : List Int → Pln) (day : Int) (u : List Int) : Nat → List Pln
  | 0 => []
  | j + 1 =>
    let (t, v, b) := setS s day u j s.eve.length
    if b = false ∨ s.most < (t.length : Int) then allK s next day u j else allK s next day u j ++ [(t ++ (next v).1, (next v).2)]
/-- so many days are left -/
def planF (s : Sls) : Nat → Int → List Int → Pln
  | 0, _, _ => ([], true)
  | k + 1, day, u => bestP (allK s (planF s k (day + 1)) day u (2 ^ s.lef.length))
def left0 (s : Sls) : List Int := (List.range 4).map fun i => if i < s.lef.length then min (nth s.lef i) s.days else 0
def planP (s : Sls) : Pln := planF s (s.days + 1).toNat 0 (left0 s)
def planL (s : Sls) : List Tst := if seaC s = 0 ∧ (planP s).2 = true then (planP s).1 else []
def planE (s : Sls) : Int := if seaC s ≠ 0 then seaC s else if (planP s).2 = true then 0 else 3
end Go.Sim
