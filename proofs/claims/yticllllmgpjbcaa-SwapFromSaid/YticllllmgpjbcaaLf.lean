/- The draw of a letting. -/
import Derived.Test.YticllllmgpjbcaaLe
namespace Go.Sim
open Go.Proofs
set_option maxRecDepth 100000
set_option linter.unusedSimpArgs false
set_option linter.unusedVariables false
attribute [-simp] List.map_set List.map_take List.map_drop setSeg
attribute [local simp] ordC_8' ordC_get' ordC_one ordC_kill ordC_kill2 setSeg_nil' ordC_len ordC_8 ordC_all ordC_m ordC_set ordC_data ordC_ren ordC_snap setSeg_full
def tokS : List App → Nat
  | [] => 0
  | a :: r => a.token.toNat + tokS r
theorem tokS_app : ∀ (l r : List App), tokS (l ++ r) = tokS l + tokS r
  | [], r => by simp [tokS]
  | a :: l, r => by simp only [List.cons_append, tokS, tokS_app l r]; omega
theorem tokS_succ {l : List App} {i : Nat} (h : i < l.length) : tokS (l.take (i + 1)) = tokS (l.take i) + l[i].token.toNat := by
  rw [List.take_succ_eq_append_getElem h, tokS_app]; simp [tokS]
theorem tokS_le : ∀ {l : List App}, (∀ a ∈ l, a.token ≤ 1000000000) → tokS l ≤ 1000000000 * l.length
  | [], _ => by simp [tokS]
  | a :: l, h => by
    have h1 := h a (by simp)
    have h2 := tokS_le (l := l) fun b hb => h b (by simp [hb])
    simp only [tokS, List.length_cons]; omega
def idsI (n : Nat) : List Int := (List.range n).map Int.ofNat
theorem idsI_succ (n : Nat) : idsI (n + 1) = idsI n ++ [(n : Int)] := by simp [idsI, List.range_succ]
theorem idsI_len (n : Nat) : (idsI n).length = n := by simp [idsI]
/-- a draw: one number after the other -/
def drawG : Nat → Nat → List Int → List Int
  | 0, _, _ => []
  | n + 1, t, r => nth r (t % r.length) :: drawG n (t / r.length) (r.eraseIdx (t % r.length))
def drawL (l : List App) : List Int := drawG l.length (tokS l) (idsI l.length)
end Go.Sim
