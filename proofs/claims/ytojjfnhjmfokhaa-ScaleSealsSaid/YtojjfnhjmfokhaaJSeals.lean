/- ScaleSeals: for every input the law returns true, and its arguments read as before. No condition. -/
import Derived.Test.YtojjfnhjmfokhaaRows
import Derived.Test.YtojjfnhjmfokhaaJb
import Derived.Test.YtojjfnhjmfokhaaOi
import Derived.OpenShut
namespace Go.Proofs.Ytojjfnhjmfokhaa.scaleSeals
open Go.ChangeShapes Go.WideShapes Go.ChangeAt Go.RowKit Go.Sim
set_option linter.unusedVariables false
theorem own:ownKnob Try.prog.godebug=none:=by kernel_rfl
theorem laidOut:laidOutB Try.prog=true:=by kernel_rfl
set_option maxRecDepth 100000 in
theorem lifted (os:Os) (started:os.Started) (H:Type) (enc:TypeId×Value→H) :
    ReturnsInHanded {} Try.checked os 4 .any (Rows.scaleSealsSpec.pre6 enc Try.prog Try.f4 Rows.scaleSealsRow.domain false) (Rows.scaleSealsSpec.post enc Try.prog Try.f4 false true false false):=by
  refine returnsInHanded_of_change (C:=Try.checked) own started (by kernel_rfl) Try.func4
    (ChangeSpec.witness6 (enc:=enc) (C:=Try.checked) false ⟨#[],#[.agg #[.int .i64 0,.int .i64 0],.agg #[.int .i64 0,.int .i64 0],.int .i64 0,.agg #[.slice none 0 0,.slice none 0 0,.int .i64 0,.int .i64 0],.slice none 0 0],[]⟩ 8 (by kernel_rfl) (by kernel_rfl) (by kernel_rfl) (by kernel_rfl)) ?_
  intro W base args ds gs before hval0 hW hcnd _
  have hval:∀(j:Nat) t v,Try.f4.params[j]?=some t→args[j]?=some v→Value.okWide Try.prog W .any base t v:=hval0
  have hW':=hW
  obtain ⟨p,q,hA0,hV,rfl,hfz,hnd⟩:=hW
  have hA:DataW.TrodAll enc Try.prog W 0 (fun _=>true) true Try.f4.params.toList args.toList ds p:=hA0
  rw [Try.params4] at hA hval
  obtain ⟨v0,vs0,d0,ds0,p0,q0,hargs,rfl,rfl,h0,r0⟩:=trodAll_cons hA
  obtain ⟨v1,vs1,d1,ds1,p1,q1,rfl,rfl,rfl,h1,r1⟩:=trodAll_cons r0
  obtain ⟨v2,vs2,d2,ds2,p2,q2,rfl,rfl,rfl,h2,r2⟩:=trodAll_cons r1
  obtain ⟨v3,vs3,d3,ds3,p3,q3,rfl,rfl,rfl,h3,r3⟩:=trodAll_cons r2
  obtain ⟨v4,vs4,d4,ds4,p4,q4,rfl,rfl,rfl,h4,r4⟩:=trodAll_cons r3
  obtain ⟨rfl,rfl,rfl⟩:=trodAll_nil r4
  obtain rfl:args = #[v0,v1,v2,v3,v4]:=by cases args;simp_all
  obtain ⟨rfl,rfl⟩:=trodVars_none hV
  obtain ⟨a0,_,g0⟩:=arg_elem Try.underlying50 ((elem_struct Try.underlying50 [FSpec.of 1 (by kernel_rfl) (elem_int Try.underlying3),FSpec.of 1 (by kernel_rfl) (elem_int Try.underlying3)] rfl (by kernel_rfl)).conv (g:=spnV) (good':=fun _=>True) (fun v=>⟨v.1,v.2.1⟩) (fun _=>rfl) (fun _ _=>trivial)) (hval 0 50 v0 rfl rfl) h0
  obtain ⟨a1,_,g1⟩:=arg_elem Try.underlying50 ((elem_struct Try.underlying50 [FSpec.of 1 (by kernel_rfl) (elem_int Try.underlying3),FSpec.of 1 (by kernel_rfl) (elem_int Try.underlying3)] rfl (by kernel_rfl)).conv (g:=spnV) (good':=fun _=>True) (fun v=>⟨v.1,v.2.1⟩) (fun _=>rfl) (fun _ _=>trivial)) (hval 1 50 v1 rfl rfl) h1
  obtain ⟨a2,_,g2⟩:=arg_int Try.underlying3 (hval 2 3 v2 rfl rfl) h2
  obtain ⟨a3,_,g3⟩:=arg_elem Try.underlying52 ((elem_struct Try.underlying52 [FSpec.of 1 (by kernel_rfl) (elem_slice (sz:=1) Try.underlying30 (by kernel_rfl) (by decide) (fun _=>rfl) (elem_int Try.underlying3)),FSpec.of 1 (by kernel_rfl) (elem_slice (sz:=1) Try.underlying30 (by kernel_rfl) (by decide) (fun _=>rfl) (elem_int Try.underlying3)),FSpec.of 1 (by kernel_rfl) (elem_int Try.underlying3),FSpec.of 1 (by kernel_rfl) (elem_int Try.underlying3)] rfl (by kernel_rfl)).conv (g:=slsV) (good':=fun _=>True) (fun v=>⟨v.1,v.2.1,v.2.2.1,v.2.2.2.1⟩) (fun _=>rfl) (fun _ _=>trivial)) (hval 3 52 v3 rfl rfl) h3
  obtain ⟨a4,_,g4⟩:=arg_slice (sz:=1) Try.underlying30 (by kernel_rfl) (by decide) (fun _=>rfl) (elem_int Try.underlying3) (hval 4 30 v4 rfl rfl) h4
  refine (calls_of (ScaleSeals_ok a0 a1 a2 a3 a4) (W:=W) (args:=#[v0,v1,v2,v3,v4]) rfl fun i x v hx hv=>?_).mono ?_
  · match i,hx,hv with
    | 0,hx,hv=>simp at hx hv;subst hx;subst hv;first | exact g0 | simpa using g0
    | 1,hx,hv=>simp at hx hv;subst hx;subst hv;first | exact g1 | simpa using g1
    | 2,hx,hv=>simp at hx hv;subst hx;subst hv;first | exact g2 | simpa using g2
    | 3,hx,hv=>simp at hx hv;subst hx;subst hv;first | exact g3 | simpa using g3
    | 4,hx,hv=>simp at hx hv;subst hx;subst hv;first | exact g4 | simpa using g4
  · rintro e W' ⟨rfl,hB⟩
    exact ⟨_,rfl,law_post laidOut rfl rfl Try.underlying4 (by kernel_rfl) hW' rfl hB⟩
theorem over:Rows.scaleSealsRow.holds Try.pinned (OpenSpec.ofChange Rows.scaleSealsSpec):=
  OpenClaim.holds_of_wide 4 Try.f4 rfl rfl rfl rfl rfl rfl rfl ⟨rfl,rfl,rfl,rfl,rfl⟩ rfl rfl rfl rfl rfl (by kernel_rfl) Try.func4 (by kernel_rfl)
    (of_decide_eq_true (by kernel_rfl)) (by unfold Func.isWrapper;first | (rw [if_pos (by decide +kernel)];kernel_rfl) | (rw [if_neg (by decide +kernel)];exact ⟨rfl,rfl⟩))
    (fun os started H enc _=>lifted os started H enc)
theorem proved:Rows.ScaleSealsSaid:=over
#print axioms proved
end Go.Proofs.Ytojjfnhjmfokhaa.scaleSeals
