/- Benches: the reference's answers are the program's. -/
import Derived.Test.YtojjfnhjmfokhaaLk
import Derived.Test.YtojjfnhjmfokhaaQi
set_option linter.unusedVariables false
set_option linter.unusedSimpArgs false
namespace Go.Sim
theorem allU_all (b:Ben):allU b=allR b:=rfl
theorem span_same {b:Ben}(hv:ValidB b){u:Tab}(hu:knownT b=some u){v:Nat}(hvn:v<sizeB b):spanK (learnK b (allU b)) v=⟨(turnD (at2 u 0 v)).1,(turnD (at2 u 0 v)).2⟩∧(at2 u 0 v).1 = -(hi2 u v 0)∧(at2 u 0 v).2=hi2 u 0 v∧(-1000000≤hi2 u v 0∧hi2 u v 0≤1000000)∧-1000000≤hi2 u 0 v∧hi2 u 0 v≤1000000:=by
  have hz:=sizeB_le hv
  have h0:0<sizeB b:=by omega
  obtain ⟨g1,g2,g3⟩:=known_some hv hu
  obtain ⟨_,ht⟩:=known_tight hv hu
  have b1 : -1000000≤hi2 u v 0∧hi2 u v 0≤1000000:=by
    have:=g2 v 0 hvn h0
    rcases g1.small hvn h0 with h | h <;> omega
  have b2 : -1000000≤hi2 u 0 v∧hi2 u 0 v≤1000000:=by
    have:=g2 0 v h0 hvn
    rcases g1.small h0 hvn with h | h <;> omega
  have e1:=g1.anti 0 v h0 hvn
  refine ⟨?_,e1,rfl,b1,b2⟩
  unfold spanK turnD
  rw [allU_all,ht v 0 hvn h0,ht 0 v h0 hvn,e1]
  rw [wrap_i64 (n:=-(-(hi2 u v 0))) (by omega) (by omega),Int.neg_neg]
end Go.Sim
