/- Benches: more results, fewer results, and what truly is. -/
import Derived.Test.YtojjfnhjmfokhaaGreatLl
set_option linter.all false
set_option linter.unusedVariables false
set_option linter.unusedSimpArgs false
set_option linter.unusedSectionVars false
namespace Go.Sim
open Go.Proofs
theorem err_at {b:Ben}(hv:ValidB b){u:Tab}(hu:knownT b=some u){s d:Nat}(hs:s<b.scl.length) (hd:d<dd b):errT u b s d=⟨-(hi2 u 0 (dayN b s d)),hi2 u (dayN b s d) 0⟩:=by
  obtain ⟨_,e1,e2,b1,b2⟩:=span_same hv hu (v:=dayN b s d) (dayN_lt hs hd)
  unfold errT turnD
  simp only
  rw [e1,e2,wrap_i64 (by omega) (by omega),wrap_i64 (by omega) (by omega),Int.neg_neg]
theorem chk_ok {b:Ben}(hv:ValidB b){s:Int}(hs:0≤s∧s<b.scl.length):chkSc b s=0:=chkSc_zero.2 ⟨hv,hs.1,hs.2⟩
theorem err_yes {b:Ben}(hv:ValidB b){u:Tab}(hu:knownT b=some u){s:Nat}(hs:s<b.scl.length):errsE b s=0∧errsL b s=(List.range (dd b)).map fun d=>⟨-(hi2 u 0 (dayN b s d)),hi2 u (dayN b s d) 0⟩:=by
  have hc:=chk_ok hv (s:=s) (by omega)
  have e:errsE b s=0:=by unfold errsE;rw [if_neg (fun n=>n hc),knE,hu];rfl
  refine ⟨e, ?_⟩
  unfold errsL
  rw [if_pos e,hu,Int.toNat_natCast]
  show errsT u b s _=_
  exact List.map_congr_left fun d hd=>err_at hv hu hs (List.mem_range.1 hd)
end Go.Sim
