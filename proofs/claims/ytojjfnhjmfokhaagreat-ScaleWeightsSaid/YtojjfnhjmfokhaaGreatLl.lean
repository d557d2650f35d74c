/- Benches: the reference's answers are the program's. -/
import Derived.Test.YtojjfnhjmfokhaaGreatLk
import Derived.Test.YtojjfnhjmfokhaaGreatQi
set_option linter.unusedVariables false
set_option linter.unusedSimpArgs false
namespace Go.Sim
theorem allU_all (b:Ben):allU b=allR b:=rfl
theorem knE_same {b:Ben}(hv:ValidB b):rknE b=knE b:=by
  unfold rknE knE
  rw [allU_all]
  by_cases h:knownT b=none
  · rw [if_pos h,if_neg (by rw [(known_learn hv).1 h];decide)]
  · rw [if_neg h,if_pos]
    cases hl:learnB b (allR b) with
    | true=>rfl
    | false=>exact absurd ((known_learn hv).2 hl) h
theorem span_same {b:Ben}(hv:ValidB b){u:Tab}(hu:knownT b=some u){v:Nat}(hvn:v<sizeB b):spanK (learnK b (allU b)) v=⟨(turnD (at2 u 0 v)).1,(turnD (at2 u 0 v)).2⟩∧(at2 u 0 v).1 = -(hi2 u v 0)∧(at2 u 0 v).2=hi2 u 0 v∧(-1000000≤hi2 u v 0∧hi2 u v 0≤1000000)∧-1000000≤hi2 u 0 v∧hi2 u 0 v≤1000000:=by
  have hz:=sizeB_le hv
  have h0:0<sizeB b:=by omega
  obtain ⟨g1,g2,g3⟩:=known_some hv hu
  obtain ⟨_,ht⟩:=known_tight hv hu
  have b1 : -1000000≤hi2 u v 0∧hi2 u v 0≤1000000:=by
    have:=g2 v 0 hvn h0
    rcases g1.small hvn h0 with h | h <;> omega
  have b2 : -1000000≤hi2 u 0 v∧hi2 u 0 v≤1000000:=by
    have:=g2 0 v h0 hvn
    rcases g1.small h0 hvn with h | h <;> omega
  have e1:=g1.anti 0 v h0 hvn
  refine ⟨?_,e1,rfl,b1,b2⟩
  unfold spanK turnD
  rw [allU_all,ht v 0 hvn h0,ht 0 v h0 hvn,e1]
  rw [wrap_i64 (n:=-(-(hi2 u v 0))) (by omega) (by omega),Int.neg_neg]
theorem errL_same (b : Ben) (s : Int) : rerrL b s = errsL b s := by
  unfold rerrL errsL
  by_cases hc:chkSc b s=0
  · have hv:=(chkSc_zero.1 hc).1
    have hs:=(chkSc_zero.1 hc).2
    rw [if_neg (fun n=>n hc)]
    unfold rerrL0
    have he:errsE b s=knE b:=by unfold errsE;rw [if_neg (fun n=>n hc)]
    rw [he,knE_same hv]
    by_cases h:knE b=0
    · rw [if_pos h,if_pos h]
      cases hu:knownT b with
      | none=>rw [knE,if_pos hu] at h;cases h
      | some u =>
        show rerrK _ _ _ _=errsT u _ _ _
        unfold rerrK errsT errT
        refine List.map_congr_left fun d hd=>?_
        have hd':=List.mem_range.1 hd
        exact (span_same hv hu (dayN_lt (by omega) hd')).1
    · rw [if_neg h,if_neg h]
  · rw [if_pos hc]
    have he:errsE b s=chkSc b s:=by unfold errsE;rw [if_pos hc]
    rw [he,if_neg hc]
end Go.Sim
