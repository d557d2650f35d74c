/- What is known of the library's variables in the world in which a law of this seat begins. -/
import Derived.Test.YtholkejjmookfaaDoorJy
set_option linter.all false
set_option linter.unusedVariables false
namespace Go.Sim
open Go.RowKit Go.ChangeShapes Go.WideShapes Go.ChangeAt Go.Proofs
def libG:List Nat:=[0,1,2,3]
theorem g_pow:Tryd.prog.globalNamed (globName Tryd.prog 0)=some 0:=by kernel_rfl
theorem lib_cells {W:World}(h:LibW W):∀g∈libG,∃v,W.cell? ⟨g,0,none⟩=some v:=by
  obtain ⟨h1,⟨m,h2⟩,⟨e3,h3,k3⟩,⟨e4,h4,k4⟩⟩:=h
  intro g hg
  simp only [libG,List.mem_cons,List.not_mem_nil,or_false] at hg
  rcases hg with rfl | rfl | rfl | rfl
  · exact tab_cell g_pow (zs:=Lib.pow10Tab.drop 1) h1
  · exact ⟨_,h2⟩
  · exact ⟨_,h3⟩
  · exact ⟨_,h4⟩
theorem lib_congr {W w:World}(h:LibW W) (hb:∀b o,(b,o)∈blocksOf W libG→w.heap[b]?=some o):LibW w:=by
  have hc:=lib_cells h
  have hs:∀g∈libG,w.heap[g]?=W.heap[g]?:=fun g hg=>by
    obtain ⟨v,hv⟩:=hc g hg
    exact blocksOf_same hb hg hv
  obtain ⟨h1,⟨m,h2⟩,⟨e3,h3,k3⟩,⟨e4,h4,k4⟩⟩:=h
  refine ⟨tab_heap g_pow (hs _ (by simp [libG])) h1,⟨m, ?_⟩,⟨e3, ?_,k3⟩,⟨e4, ?_,k4⟩⟩
  · rw [cell_heap (hs _ (by simp [libG]))];exact h2
  · rw [cell_heap (hs _ (by simp [libG]))];exact h3
  · rw [cell_heap (hs _ (by simp [libG]))];exact h4
def lbOf (W:World) (h:LibW W):Lb:={ L:=blocksOf W libG,tab:=fun g vs hg=>by (rw [seatT_eq] at hg;cases hg),ok:=fun w hw=>lib_congr h hw }
theorem lbOf_in {W:World}(h:LibW W):∀b o,(b,o)∈(lbOf W h).L→W.heap[b]?=some o∧CellIn W b:=fun b o hb=>by
  obtain ⟨h1,h2⟩:=blocksOf_get hb
  obtain ⟨v,hv⟩:=lib_cells h b h1
  exact ⟨h2,0,v,hv⟩
end Go.Sim
