/- Benches: more results, fewer results, and what truly is. -/
import Derived.Test.YtojjfnhjmfokhaaLl
set_option linter.all false
set_option linter.unusedVariables false
set_option linter.unusedSimpArgs false
set_option linter.unusedSectionVars false
namespace Go.Sim
open Go.Proofs
def wth (b:Ben) (ws:List Wei) (ts:List Tri):Ben:=⟨b.mas,ws,b.scl,ts,b.days⟩
theorem wth_fits {b:Ben}{ws:List Wei}{ts:List Tri}{x:Nat→Int}:Fits (wth b ws ts) x↔Base b x∧(∀w∈ws,FctHolds x (weiF w))∧∀t∈ts,FctHolds x (triF b t):=by
  constructor
  · rintro ⟨h1,h2⟩
    exact ⟨h1,fun w hw=>h2 _ (List.mem_append_left _ (List.mem_map.2 ⟨w,hw,rfl⟩)),fun t ht=>h2 _ (List.mem_append_right _ (List.mem_map.2 ⟨t,ht,rfl⟩))⟩
  · rintro ⟨h1,h2,h3⟩
    refine ⟨h1,fun f hf=>?_⟩
    rcases List.mem_append.1 hf with g | g
    · obtain ⟨w,hw,rfl⟩:=List.mem_map.1 g;exact h2 w hw
    · obtain ⟨t,ht,rfl⟩:=List.mem_map.1 g;exact h3 t ht
end Go.Sim
