/- SwapBlocks: for every input the law returns true, and its arguments read as before. No condition. -/
import Derived.Test.YtggbbldoopfejaaRows
import Derived.Test.YtggbbldoopfejaaJa
import Derived.Test.YtggbbldoopfejaaWa
import Derived.OpenShut
namespace Go.Proofs.Ytggbbldoopfejaa.swapBlocks
open Go.ChangeShapes Go.WideShapes Go.ChangeAt Go.RowKit Go.Sim
set_option linter.unusedVariables false

theorem own : ownKnob Try.prog.godebug = none := by kernel_rfl
theorem laidOut : laidOutB Try.prog = true := by kernel_rfl

set_option maxRecDepth 100000 in
theorem lifted (os : Os) (started : os.Started) (H : Type) (enc : TypeId × Value → H) :
    ReturnsInHanded {} Try.checked os 4 .any (Rows.swapBlocksSpec.pre6 enc Try.prog Try.f4 Rows.swapBlocksRow.domain false) (Rows.swapBlocksSpec.post enc Try.prog Try.f4 false true false false) := by
  refine returnsInHanded_of_change (C := Try.checked) own started (by kernel_rfl) Try.func4
    (ChangeSpec.witness6 (enc := enc) (C := Try.checked) false ⟨#[], #[.agg #[.slice none 0 0, .slice none 0 0], .slice none 0 0, .slice none 0 0], []⟩ 8 (by kernel_rfl) (by kernel_rfl) (by kernel_rfl) (by kernel_rfl)) ?_
  intro W base args ds gs before hval0 hW hcnd _
  have hval : ∀ (j : Nat) t v, Try.f4.params[j]? = some t → args[j]? = some v → Value.okWide Try.prog W .any base t v := hval0
  have hW' := hW
  obtain ⟨p, q, hA0, hV, rfl, hfz, hnd⟩ := hW
  have hA : DataW.TrodAll enc Try.prog W 0 (fun _ => true) true Try.f4.params.toList args.toList ds p := hA0
  rw [Try.params4] at hA hval
  obtain ⟨v0, vs0, d0, ds0, p0, q0, hargs, rfl, rfl, h0, r0⟩ := trodAll_cons hA
  obtain ⟨v1, vs1, d1, ds1, p1, q1, rfl, rfl, rfl, h1, r1⟩ := trodAll_cons r0
  obtain ⟨v2, vs2, d2, ds2, p2, q2, rfl, rfl, rfl, h2, r2⟩ := trodAll_cons r1
  obtain ⟨rfl, rfl, rfl⟩ := trodAll_nil r2
  obtain rfl : args = #[v0, v1, v2] := by cases args; simp_all
  obtain ⟨rfl, rfl⟩ := trodVars_none hV
  obtain ⟨a0, b0, _, _, g0⟩ := arg_struct2 Try.underlying25 rfl rfl (by kernel_rfl) (by kernel_rfl) (by kernel_rfl) (fun _ => rfl) (fun _ => rfl) (elem_slice (sz := 2) Try.underlying22 (by kernel_rfl) (by decide) (fun _ => rfl) (elem_pair Try.underlying55 rfl rfl Try.underlying3 rfl rfl (by kernel_rfl) (by kernel_rfl))) (elem_slice (sz := 1) Try.underlying23 (by kernel_rfl) (by decide) (fun _ => rfl) (elem_slice (sz := 2) Try.underlying22 (by kernel_rfl) (by decide) (fun _ => rfl) (elem_pair Try.underlying55 rfl rfl Try.underlying3 rfl rfl (by kernel_rfl) (by kernel_rfl)))) (hval 0 25 v0 rfl rfl) h0
  obtain ⟨a1, w1, g1⟩ := arg_slice (sz := 2) Try.underlying22 (by kernel_rfl) (by decide) (fun _ => rfl) (elem_pair Try.underlying55 rfl rfl Try.underlying3 rfl rfl (by kernel_rfl) (by kernel_rfl)) (hval 1 22 v1 rfl rfl) h1
  obtain ⟨a2, _, g2⟩ := arg_slice (sz := 1) Try.underlying26 (by kernel_rfl) (by decide) (fun _ => rfl) (elem_int Try.underlying3) (hval 2 26 v2 rfl rfl) h2
  refine (calls_of (SwapBlocks_ok a0 b0 a1 a2 w1) (W := W) (args := #[v0, v1, v2]) rfl fun i x v hx hv => ?_).mono ?_
  · match i, hx, hv with
    | 0, hx, hv => simp at hx hv; subst hx; subst hv; first | exact g0 | simpa using g0
    | 1, hx, hv => simp at hx hv; subst hx; subst hv; first | exact g1 | simpa using g1
    | 2, hx, hv => simp at hx hv; subst hx; subst hv; first | exact g2 | simpa using g2
  · rintro e W' ⟨rfl, hB⟩
    exact ⟨_, rfl, law_post laidOut rfl rfl Try.underlying4 (by kernel_rfl) hW' rfl hB⟩

theorem over : Rows.swapBlocksRow.holds Try.pinned (OpenSpec.ofChange Rows.swapBlocksSpec) :=
  OpenClaim.holds_of_wide 4 Try.f4 rfl rfl rfl rfl rfl rfl rfl ⟨rfl, rfl, rfl, rfl, rfl⟩ rfl rfl rfl rfl rfl (by kernel_rfl) Try.func4 (by kernel_rfl)
    (of_decide_eq_true (by kernel_rfl)) (by unfold Func.isWrapper; first | (rw [if_pos (by decide +kernel)]; kernel_rfl) | (rw [if_neg (by decide +kernel)]; exact ⟨rfl, rfl⟩))
    (fun os started H enc _ => lifted os started H enc)

theorem proved : Rows.SwapBlocksSaid := over
#print axioms proved
end Go.Proofs.Ytggbbldoopfejaa.swapBlocks
