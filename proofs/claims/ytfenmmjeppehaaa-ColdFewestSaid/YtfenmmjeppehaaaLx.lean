/- Small helps: hours that are asked for, lists with one thing changed. -/
import Derived.Test.YtfenmmjeppehaaaLm
import Derived.Test.YtfenmmjeppehaaaQc
set_option linter.unusedSimpArgs false
set_option linter.unusedVariables false
namespace Go.Sim
open Go.Proofs
theorem lotE_cong {c m : Cel} {l : CLot} (hv : ValidC c) (hl : LotOk c.boxes.length l) {h : Int} (h1 : l.born ≤ h) (h2 : h ≤ 240) : lotE c l h = 0 ∧ lotS c l h = lostS c l (h - l.born).toNat := by
  have hb := hl.born
  have e : lotE c l h = 0 := by rw [lotE, if_neg (fun q => q (checkLotC_zero.2 ⟨hv, hl⟩)), if_neg (by omega), if_neg (by omega)]
  exact ⟨e, by rw [lotS, if_pos e]⟩
theorem set_mapB9 {l : List CBox} {i : Nat} {a1 a2 a3 a4 a5 a6 a7 a8 a9 : Int} : (l.map B9).set i (.agg [I a1, I a2, I a3, I a4, I a5, I a6, I a7, I a8, I a9]) = (l.set i ⟨a1, ⟨a2, a3⟩, ⟨a4, a5⟩, ⟨a6, a7⟩, ⟨a8, a9⟩⟩).map B9 := by rw [List.map_set]; rfl
theorem nth_set_eq {α : Type} [NthD α] {l : List α} {i : Nat} {x : α} (h : i < l.length) : nth (l.set i x) i = x := by rw [nth_get (by rw [List.length_set]; exact h), List.getElem_set_self]
theorem nth_set_ne {α : Type} [NthD α] {l : List α} {i j : Nat} {x : α} (h : j ≠ i) : nth (l.set i x) j = nth l j := by
  unfold nth
  rw [List.getD_eq_getElem?_getD, List.getD_eq_getElem?_getD, List.getElem?_set_ne (Ne.symm h)]
end Go.Sim
