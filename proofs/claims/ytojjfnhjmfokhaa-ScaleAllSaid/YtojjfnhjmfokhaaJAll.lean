/- ScaleAll: for every input the law returns true, and its arguments read as before. No condition. -/
import Derived.Test.YtojjfnhjmfokhaaRows
import Derived.Test.YtojjfnhjmfokhaaJa
import Derived.Test.YtojjfnhjmfokhaaOk
import Derived.OpenShut
namespace Go.Proofs.Ytojjfnhjmfokhaa.scaleAll
open Go.ChangeShapes Go.WideShapes Go.ChangeAt Go.RowKit Go.Sim
set_option linter.unusedVariables false
theorem own:ownKnob Try.prog.godebug=none:=by kernel_rfl
theorem laidOut:laidOutB Try.prog=true:=by kernel_rfl
set_option maxRecDepth 100000 in
theorem lifted (os:Os) (started:os.Started) (H:Type) (enc:TypeId×Value→H) :
    ReturnsInHanded {} Try.checked os 8 .any (Rows.scaleAllSpec.pre6 enc Try.prog Try.f8 Rows.scaleAllRow.domain false) (Rows.scaleAllSpec.post enc Try.prog Try.f8 false true false false):=by
  refine returnsInHanded_of_change (C:=Try.checked) own started (by kernel_rfl) Try.func8
    (ChangeSpec.witness6 (enc:=enc) (C:=Try.checked) false ⟨#[],#[.slice none 0 0],[]⟩ 8 (by kernel_rfl) (by kernel_rfl) (by kernel_rfl) (by kernel_rfl)) ?_
  intro W base args ds gs before hval0 hW hcnd _
  have hval:∀(j:Nat) t v,Try.f8.params[j]?=some t→args[j]?=some v→Value.okWide Try.prog W .any base t v:=hval0
  have hW':=hW
  obtain ⟨p,q,hA0,hV,rfl,hfz,hnd⟩:=hW
  have hA:DataW.TrodAll enc Try.prog W 0 (fun _=>true) true Try.f8.params.toList args.toList ds p:=hA0
  rw [Try.params8] at hA hval
  obtain ⟨v0,vs0,d0,ds0,p0,q0,hargs,rfl,rfl,h0,r0⟩:=trodAll_cons hA
  obtain ⟨rfl,rfl,rfl⟩:=trodAll_nil r0
  obtain rfl:args = #[v0]:=by cases args;simp_all
  obtain ⟨rfl,rfl⟩:=trodVars_none hV
  obtain ⟨a0,_,g0⟩:=arg_slice (sz:=1) Try.underlying30 (by kernel_rfl) (by decide) (fun _=>rfl) (elem_int Try.underlying3) (hval 0 30 v0 rfl rfl) h0
  refine (calls_of (ScaleAll_ok a0) (W:=W) (args:=#[v0]) rfl fun i x v hx hv=>?_).mono ?_
  · match i,hx,hv with
    | 0,hx,hv=>simp at hx hv;subst hx;subst hv;first | exact g0 | simpa using g0
  · rintro e W' ⟨rfl,hB⟩
    exact ⟨_,rfl,law_post laidOut rfl rfl Try.underlying4 (by kernel_rfl) hW' rfl hB⟩
theorem over:Rows.scaleAllRow.holds Try.pinned (OpenSpec.ofChange Rows.scaleAllSpec):=
  OpenClaim.holds_of_wide 8 Try.f8 rfl rfl rfl rfl rfl rfl rfl ⟨rfl,rfl,rfl,rfl,rfl⟩ rfl rfl rfl rfl rfl (by kernel_rfl) Try.func8 (by kernel_rfl)
    (of_decide_eq_true (by kernel_rfl)) (by unfold Func.isWrapper;first | (rw [if_pos (by decide +kernel)];kernel_rfl) | (rw [if_neg (by decide +kernel)];exact ⟨rfl,rfl⟩))
    (fun os started H enc _=>lifted os started H enc)
theorem proved:Rows.ScaleAllSaid:=over
#print axioms proved
end Go.Proofs.Ytojjfnhjmfokhaa.scaleAll
