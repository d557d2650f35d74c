/- The reference's tables: the operations, as they are carried out. -/
import Derived.Test.YtfcmfoacedbleaaDoorQd
set_option linter.all false
set_option linter.unusedVariables false
set_option linter.unusedSimpArgs false
set_option linter.unusedSectionVars false
namespace Go.Sim
open Go.Proofs
abbrev KT := List (List Int)
def rowK (r : List Int) : List AV := r.map I
theorem rowK_def (r : List Int) : rowK r = r.map I := rfl
abbrev at1 (K : KT) (u v : Nat) : Int := nth (nth K u) v
def SqK (n : Nat) (K : KT) : Prop := K.length = n ∧ ∀ r ∈ K, r.length = n
theorem SqK.row {n : Nat} {K : KT} (h : SqK n K) {i : Nat} (hi : i < K.length) : K[i].length = n := h.2 _ (List.getElem_mem hi)
/-- nothing is known -/
def rowF (n u : Nat) : List Int := (List.range n).map fun v => if u = v then 0 else 1099511627776
def freeK (n : Nat) : KT := (List.range n).map (rowF n)
/-- u and v are apart by a number of a span -/
structure Cst where
  u : Nat
  v : Nat
  x : Spn
def CstOk (n : Nat) (c : Cst) : Prop := c.u < n ∧ c.v < n
end Go.Sim
