/- The draw of a letting. -/
import Derived.Test.YtamcckgclidgkaaDoorLe
namespace Go.Sim
open Go.Proofs
set_option maxRecDepth 100000
set_option linter.unusedSimpArgs false
set_option linter.unusedVariables false
attribute [-simp] List.map_set List.map_take List.map_drop setSeg
attribute [local simp] ordC_8' ordC_get' ordC_one ordC_kill ordC_kill2 setSeg_nil' ordC_len ordC_8 ordC_all ordC_m ordC_set ordC_data ordC_ren ordC_snap setSeg_full
def tokS : List App → Nat
  | [] => 0
  | a :: r => a.token.toNat + tokS r
def idsI (n : Nat) : List Int := (List.range n).map Int.ofNat
theorem idsI_len (n : Nat) : (idsI n).length = n := by simp [idsI]
/-- a draw: one number after the other -/
def drawG : Nat → Nat → List Int → List Int
  | 0, _, _ => []
  | n + 1, t, r => nth r (t % r.length) :: drawG n (t / r.length) (r.eraseIdx (t % r.length))
def drawL (l : List App) : List Int := drawG l.length (tokS l) (idsI l.length)
end Go.Sim
