/- The reference's search for a ring that pleases. -/
import Derived.Test.YticllllmgpjbcaaVr
namespace Go.Sim.W6
open Go.Proofs Go.Plain
set_option maxRecDepth 100000
set_option linter.unusedSimpArgs false
set_option linter.unusedVariables false
attribute [-simp] List.map_set List.map_take List.map_drop
attribute [local simp] take_map' drop_map' take_app1
def wantsR (ow : List Turn) (lk : List (List Turn)) (held : List Turn) (a b : Nat) : Bool := decide (rkR ow lk a (nth held b) < min (takesT ow lk a).length (rkR ow lk a (nth held a)))
def plzR (ow : List Turn) (lk : List (List Turn)) (held : List Turn) (l : List Nat) : Bool := (List.range' 0 (l.length - 0)).all (fun i => !decide (nth l i ∈ l.take i) && wantsR ow lk held (nth l i) (nth l ((i + 1) % l.length))) && decide (1 < l.length)
def rple (P : List Nat → Bool) (n many : Nat) : Nat → List Nat → List Nat
  | 0, _ => []
  | f + 1, l => if l.length = many then (if P l then l else []) else firstNE (fun i => if l ≠ [] ∧ (i ≤ nth l 0 ∨ i ∈ l) then [] else rple P n many f (l ++ [i])) (List.range' 0 (n - 0))
end Go.Sim.W6
