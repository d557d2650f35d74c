/- ScaleClashes: for every input the law returns true, and its arguments read as before. No condition. -/
import Derived.Test.YtojjfnhjmfokhaaRows
import Derived.Test.YtojjfnhjmfokhaaJb
import Derived.Test.YtojjfnhjmfokhaaOf
import Derived.OpenShut
namespace Go.Proofs.Ytojjfnhjmfokhaa.scaleClashes
open Go.ChangeShapes Go.WideShapes Go.ChangeAt Go.RowKit Go.Sim
set_option linter.unusedVariables false
theorem own:ownKnob Try.prog.godebug=none:=by kernel_rfl
theorem laidOut:laidOutB Try.prog=true:=by kernel_rfl
set_option maxRecDepth 100000 in
theorem lifted (os:Os) (started:os.Started) (H:Type) (enc:TypeId×Value→H) :
    ReturnsInHanded {} Try.checked os 3 .any (Rows.scaleClashesSpec.pre6 enc Try.prog Try.f3 Rows.scaleClashesRow.domain false) (Rows.scaleClashesSpec.post enc Try.prog Try.f3 false true false false):=by
  refine returnsInHanded_of_change (C:=Try.checked) own started (by kernel_rfl) Try.func3
    (ChangeSpec.witness6 (enc:=enc) (C:=Try.checked) false ⟨#[],#[.agg #[.slice none 0 0,.slice none 0 0,.slice none 0 0,.slice none 0 0,.int .i64 0],.agg #[.int .i64 0,.int .i64 0,.int .i64 0,.int .i64 0],.slice none 0 0],[]⟩ 8 (by kernel_rfl) (by kernel_rfl) (by kernel_rfl) (by kernel_rfl)) ?_
  intro W base args ds gs before hval0 hW hcnd _
  have hval:∀(j:Nat) t v,Try.f3.params[j]?=some t→args[j]?=some v→Value.okWide Try.prog W .any base t v:=hval0
  have hW':=hW
  obtain ⟨p,q,hA0,hV,rfl,hfz,hnd⟩:=hW
  have hA:DataW.TrodAll enc Try.prog W 0 (fun _=>true) true Try.f3.params.toList args.toList ds p:=hA0
  rw [Try.params3] at hA hval
  obtain ⟨v0,vs0,d0,ds0,p0,q0,hargs,rfl,rfl,h0,r0⟩:=trodAll_cons hA
  obtain ⟨v1,vs1,d1,ds1,p1,q1,rfl,rfl,rfl,h1,r1⟩:=trodAll_cons r0
  obtain ⟨v2,vs2,d2,ds2,p2,q2,rfl,rfl,rfl,h2,r2⟩:=trodAll_cons r1
  obtain ⟨rfl,rfl,rfl⟩:=trodAll_nil r2
  obtain rfl:args = #[v0,v1,v2]:=by cases args;simp_all
  obtain ⟨rfl,rfl⟩:=trodVars_none hV
  obtain ⟨a0,_,g0⟩:=arg_elem Try.underlying27 ((elem_struct Try.underlying27 [FSpec.of 1 (by kernel_rfl) (elem_slice (sz:=3) Try.underlying22 (by kernel_rfl) (by decide) (fun _=>rfl) ((elem_struct Try.underlying92 [FSpec.of 1 (by kernel_rfl) (elem_int Try.underlying3),FSpec.of 2 (by kernel_rfl) ((elem_struct Try.underlying50 [FSpec.of 1 (by kernel_rfl) (elem_int Try.underlying3),FSpec.of 1 (by kernel_rfl) (elem_int Try.underlying3)] rfl (by kernel_rfl)).conv (g:=spnV) (good':=fun _=>True) (fun v=>⟨v.1,v.2.1⟩) (fun _=>rfl) (fun _ _=>trivial))] rfl (by kernel_rfl)).conv (g:=M3) (good':=fun _=>True) (fun v=>⟨v.1,v.2.1⟩) (fun _=>rfl) (fun _ _=>trivial))),FSpec.of 1 (by kernel_rfl) (elem_slice (sz:=4) Try.underlying23 (by kernel_rfl) (by decide) (fun _=>rfl) ((elem_struct Try.underlying85 [FSpec.of 1 (by kernel_rfl) (elem_int Try.underlying3),FSpec.of 1 (by kernel_rfl) (elem_int Try.underlying3),FSpec.of 2 (by kernel_rfl) ((elem_struct Try.underlying50 [FSpec.of 1 (by kernel_rfl) (elem_int Try.underlying3),FSpec.of 1 (by kernel_rfl) (elem_int Try.underlying3)] rfl (by kernel_rfl)).conv (g:=spnV) (good':=fun _=>True) (fun v=>⟨v.1,v.2.1⟩) (fun _=>rfl) (fun _ _=>trivial))] rfl (by kernel_rfl)).conv (g:=W4) (good':=fun _=>True) (fun v=>⟨v.1,v.2.1,v.2.2.1⟩) (fun _=>rfl) (fun _ _=>trivial))),FSpec.of 1 (by kernel_rfl) (elem_slice (sz:=4) Try.underlying24 (by kernel_rfl) (by decide) (fun _=>rfl) ((elem_struct Try.underlying95 [FSpec.of 2 (by kernel_rfl) ((elem_struct Try.underlying50 [FSpec.of 1 (by kernel_rfl) (elem_int Try.underlying3),FSpec.of 1 (by kernel_rfl) (elem_int Try.underlying3)] rfl (by kernel_rfl)).conv (g:=spnV) (good':=fun _=>True) (fun v=>⟨v.1,v.2.1⟩) (fun _=>rfl) (fun _ _=>trivial)),FSpec.of 2 (by kernel_rfl) ((elem_struct Try.underlying50 [FSpec.of 1 (by kernel_rfl) (elem_int Try.underlying3),FSpec.of 1 (by kernel_rfl) (elem_int Try.underlying3)] rfl (by kernel_rfl)).conv (g:=spnV) (good':=fun _=>True) (fun v=>⟨v.1,v.2.1⟩) (fun _=>rfl) (fun _ _=>trivial))] rfl (by kernel_rfl)).conv (g:=C4) (good':=fun _=>True) (fun v=>⟨v.1,v.2.1⟩) (fun _=>rfl) (fun _ _=>trivial))),FSpec.of 1 (by kernel_rfl) (elem_slice (sz:=4) Try.underlying25 (by kernel_rfl) (by decide) (fun _=>rfl) ((elem_struct Try.underlying29 [FSpec.of 1 (by kernel_rfl) (elem_int Try.underlying3),FSpec.of 1 (by kernel_rfl) (elem_int Try.underlying3),FSpec.of 1 (by kernel_rfl) (elem_int Try.underlying3),FSpec.of 1 (by kernel_rfl) (elem_int Try.underlying3)] rfl (by kernel_rfl)).conv (g:=R4) (good':=fun _=>True) (fun v=>⟨v.1,v.2.1,v.2.2.1,v.2.2.2.1⟩) (fun _=>rfl) (fun _ _=>trivial))),FSpec.of 1 (by kernel_rfl) (elem_int Try.underlying3)] rfl (by kernel_rfl)).conv (g:=benV) (good':=fun _=>True) (fun v=>⟨v.1,v.2.1,v.2.2.1,v.2.2.2.1,v.2.2.2.2.1⟩) (fun _=>rfl) (fun _ _=>trivial)) (hval 0 27 v0 rfl rfl) h0
  obtain ⟨a1,_,g1⟩:=arg_elem Try.underlying29 ((elem_struct Try.underlying29 [FSpec.of 1 (by kernel_rfl) (elem_int Try.underlying3),FSpec.of 1 (by kernel_rfl) (elem_int Try.underlying3),FSpec.of 1 (by kernel_rfl) (elem_int Try.underlying3),FSpec.of 1 (by kernel_rfl) (elem_int Try.underlying3)] rfl (by kernel_rfl)).conv (g:=R4) (good':=fun _=>True) (fun v=>⟨v.1,v.2.1,v.2.2.1,v.2.2.2.1⟩) (fun _=>rfl) (fun _ _=>trivial)) (hval 1 29 v1 rfl rfl) h1
  obtain ⟨a2,_,g2⟩:=arg_slice (sz:=1) Try.underlying30 (by kernel_rfl) (by decide) (fun _=>rfl) (elem_int Try.underlying3) (hval 2 30 v2 rfl rfl) h2
  refine (calls_of (ScaleClashes_ok a0 a1 a2) (W:=W) (args:=#[v0,v1,v2]) rfl fun i x v hx hv=>?_).mono ?_
  · match i,hx,hv with
    | 0,hx,hv=>simp at hx hv;subst hx;subst hv;first | exact g0 | simpa using g0
    | 1,hx,hv=>simp at hx hv;subst hx;subst hv;first | exact g1 | simpa using g1
    | 2,hx,hv=>simp at hx hv;subst hx;subst hv;first | exact g2 | simpa using g2
  · rintro e W' ⟨rfl,hB⟩
    exact ⟨_,rfl,law_post laidOut rfl rfl Try.underlying4 (by kernel_rfl) hW' rfl hB⟩
theorem over:Rows.scaleClashesRow.holds Try.pinned (OpenSpec.ofChange Rows.scaleClashesSpec):=
  OpenClaim.holds_of_wide 3 Try.f3 rfl rfl rfl rfl rfl rfl rfl ⟨rfl,rfl,rfl,rfl,rfl⟩ rfl rfl rfl rfl rfl (by kernel_rfl) Try.func3 (by kernel_rfl)
    (of_decide_eq_true (by kernel_rfl)) (by unfold Func.isWrapper;first | (rw [if_pos (by decide +kernel)];kernel_rfl) | (rw [if_neg (by decide +kernel)];exact ⟨rfl,rfl⟩))
    (fun os started H enc _=>lifted os started H enc)
theorem proved:Rows.ScaleClashesSaid:=over
#print axioms proved
end Go.Proofs.Ytojjfnhjmfokhaa.scaleClashes
