/- The reference's search for a group that blocks. -/
import Derived.Test.YticllllmgpjbcaaVr
namespace Go.Sim.W6
open Go.Proofs Go.Plain
set_option maxRecDepth 100000
set_option linter.unusedSimpArgs false
set_option linter.unusedVariables false
attribute [-simp] List.map_set List.map_take List.map_drop
attribute [local simp] take_map' drop_map' take_app1
def rblk (ow : List Turn) (lk : List (List Turn)) (held : List Turn) (g : List Nat) : Nat → List Nat → Bool → Bool
  | 0, _, _ => false
  | f + 1, gv, better => if gv.length = g.length then better else g.any fun o => !decide (o ∈ gv) && decide (rkR ow lk (nth g gv.length) (nth ow o) < (takesT ow lk (nth g gv.length)).length) && decide (rkR ow lk (nth g gv.length) (nth ow o) ≤ rkR ow lk (nth g gv.length) (nth held (nth g gv.length))) && rblk ow lk held g f (gv ++ [o]) (better || decide (rkR ow lk (nth g gv.length) (nth ow o) < rkR ow lk (nth g gv.length) (nth held (nth g gv.length))))
def rblkG (ow : List Turn) (lk : List (List Turn)) (held : List Turn) (g : List Nat) : Bool := rblk ow lk held g (g.length + 1) [] false
end Go.Sim.W6
