/- ScaleWeights: for every input the law returns true, and its arguments read as before. No condition. -/
import Derived.Test.YtojjfnhjmfokhaaGreatRows
import Derived.Test.YtojjfnhjmfokhaaGreatJb
import Derived.Test.YtojjfnhjmfokhaaGreatOh
import Derived.OpenShut
namespace Go.Proofs.YtojjfnhjmfokhaaGreat.scaleWeights
open Go.ChangeShapes Go.WideShapes Go.ChangeAt Go.RowKit Go.Sim
set_option linter.unusedVariables false
theorem own:ownKnob Tryz.prog.godebug=none:=by kernel_rfl
theorem laidOut:laidOutB Tryz.prog=true:=by kernel_rfl
set_option maxRecDepth 100000 in
theorem lifted (os:Os) (started:os.Started) (H:Type) (enc:TypeId×Value→H) :
    ReturnsInHanded {} Tryz.checked os 3 .any (Rows.scaleWeightsSpec.pre6 enc Tryz.prog Tryz.f3 Rows.scaleWeightsRow.domain false) (Rows.scaleWeightsSpec.post enc Tryz.prog Tryz.f3 false true false false):=by
  refine returnsInHanded_of_change (C:=Tryz.checked) own started (by kernel_rfl) Tryz.func3
    (ChangeSpec.witness6 (enc:=enc) (C:=Tryz.checked) false ⟨#[],#[.agg #[.slice none 0 0,.slice none 0 0,.slice none 0 0,.slice none 0 0,.int .i64 0],.int .i64 0,.int .i64 0,.int .i64 0,.int .i64 0,.slice none 0 0],[]⟩ 8 (by kernel_rfl) (by kernel_rfl) (by kernel_rfl) (by kernel_rfl)) ?_
  intro W base args ds gs before hval0 hW hcnd _
  have hval:∀(j:Nat) t v,Tryz.f3.params[j]?=some t→args[j]?=some v→Value.okWide Tryz.prog W .any base t v:=hval0
  have hW':=hW
  obtain ⟨p,q,hA0,hV,rfl,hfz,hnd⟩:=hW
  have hA:DataW.TrodAll enc Tryz.prog W 0 (fun _=>true) true Tryz.f3.params.toList args.toList ds p:=hA0
  rw [Tryz.params3] at hA hval
  obtain ⟨v0,vs0,d0,ds0,p0,q0,hargs,rfl,rfl,h0,r0⟩:=trodAll_cons hA
  obtain ⟨v1,vs1,d1,ds1,p1,q1,rfl,rfl,rfl,h1,r1⟩:=trodAll_cons r0
  obtain ⟨v2,vs2,d2,ds2,p2,q2,rfl,rfl,rfl,h2,r2⟩:=trodAll_cons r1
  obtain ⟨v3,vs3,d3,ds3,p3,q3,rfl,rfl,rfl,h3,r3⟩:=trodAll_cons r2
  obtain ⟨v4,vs4,d4,ds4,p4,q4,rfl,rfl,rfl,h4,r4⟩:=trodAll_cons r3
  obtain ⟨v5,vs5,d5,ds5,p5,q5,rfl,rfl,rfl,h5,r5⟩:=trodAll_cons r4
  obtain ⟨rfl,rfl,rfl⟩:=trodAll_nil r5
  obtain rfl:args = #[v0,v1,v2,v3,v4,v5]:=by cases args;simp_all
  obtain ⟨rfl,rfl⟩:=trodVars_none hV
  obtain ⟨a0,_,g0⟩:=arg_elem Tryz.underlying27 ((elem_struct Tryz.underlying27 [FSpec.of 1 (by kernel_rfl) (elem_slice (sz:=3) Tryz.underlying22 (by kernel_rfl) (by decide) (fun _=>rfl) ((elem_struct Tryz.underlying77 [FSpec.of 1 (by kernel_rfl) (elem_int Tryz.underlying3),FSpec.of 2 (by kernel_rfl) ((elem_struct Tryz.underlying42 [FSpec.of 1 (by kernel_rfl) (elem_int Tryz.underlying3),FSpec.of 1 (by kernel_rfl) (elem_int Tryz.underlying3)] rfl (by kernel_rfl)).conv (g:=spnV) (good':=fun _=>True) (fun v=>⟨v.1,v.2.1⟩) (fun _=>rfl) (fun _ _=>trivial))] rfl (by kernel_rfl)).conv (g:=M3) (good':=fun _=>True) (fun v=>⟨v.1,v.2.1⟩) (fun _=>rfl) (fun _ _=>trivial))),FSpec.of 1 (by kernel_rfl) (elem_slice (sz:=4) Tryz.underlying23 (by kernel_rfl) (by decide) (fun _=>rfl) ((elem_struct Tryz.underlying82 [FSpec.of 1 (by kernel_rfl) (elem_int Tryz.underlying3),FSpec.of 1 (by kernel_rfl) (elem_int Tryz.underlying3),FSpec.of 2 (by kernel_rfl) ((elem_struct Tryz.underlying42 [FSpec.of 1 (by kernel_rfl) (elem_int Tryz.underlying3),FSpec.of 1 (by kernel_rfl) (elem_int Tryz.underlying3)] rfl (by kernel_rfl)).conv (g:=spnV) (good':=fun _=>True) (fun v=>⟨v.1,v.2.1⟩) (fun _=>rfl) (fun _ _=>trivial))] rfl (by kernel_rfl)).conv (g:=W4) (good':=fun _=>True) (fun v=>⟨v.1,v.2.1,v.2.2.1⟩) (fun _=>rfl) (fun _ _=>trivial))),FSpec.of 1 (by kernel_rfl) (elem_slice (sz:=4) Tryz.underlying24 (by kernel_rfl) (by decide) (fun _=>rfl) ((elem_struct Tryz.underlying80 [FSpec.of 2 (by kernel_rfl) ((elem_struct Tryz.underlying42 [FSpec.of 1 (by kernel_rfl) (elem_int Tryz.underlying3),FSpec.of 1 (by kernel_rfl) (elem_int Tryz.underlying3)] rfl (by kernel_rfl)).conv (g:=spnV) (good':=fun _=>True) (fun v=>⟨v.1,v.2.1⟩) (fun _=>rfl) (fun _ _=>trivial)),FSpec.of 2 (by kernel_rfl) ((elem_struct Tryz.underlying42 [FSpec.of 1 (by kernel_rfl) (elem_int Tryz.underlying3),FSpec.of 1 (by kernel_rfl) (elem_int Tryz.underlying3)] rfl (by kernel_rfl)).conv (g:=spnV) (good':=fun _=>True) (fun v=>⟨v.1,v.2.1⟩) (fun _=>rfl) (fun _ _=>trivial))] rfl (by kernel_rfl)).conv (g:=C4) (good':=fun _=>True) (fun v=>⟨v.1,v.2.1⟩) (fun _=>rfl) (fun _ _=>trivial))),FSpec.of 1 (by kernel_rfl) (elem_slice (sz:=4) Tryz.underlying25 (by kernel_rfl) (by decide) (fun _=>rfl) ((elem_struct Tryz.underlying84 [FSpec.of 1 (by kernel_rfl) (elem_int Tryz.underlying3),FSpec.of 1 (by kernel_rfl) (elem_int Tryz.underlying3),FSpec.of 1 (by kernel_rfl) (elem_int Tryz.underlying3),FSpec.of 1 (by kernel_rfl) (elem_int Tryz.underlying3)] rfl (by kernel_rfl)).conv (g:=R4) (good':=fun _=>True) (fun v=>⟨v.1,v.2.1,v.2.2.1,v.2.2.2.1⟩) (fun _=>rfl) (fun _ _=>trivial))),FSpec.of 1 (by kernel_rfl) (elem_int Tryz.underlying3)] rfl (by kernel_rfl)).conv (g:=benV) (good':=fun _=>True) (fun v=>⟨v.1,v.2.1,v.2.2.1,v.2.2.2.1,v.2.2.2.2.1⟩) (fun _=>rfl) (fun _ _=>trivial)) (hval 0 27 v0 rfl rfl) h0
  obtain ⟨a1,_,g1⟩:=arg_int Tryz.underlying3 (hval 1 3 v1 rfl rfl) h1
  obtain ⟨a2,_,g2⟩:=arg_int Tryz.underlying3 (hval 2 3 v2 rfl rfl) h2
  obtain ⟨a3,_,g3⟩:=arg_int Tryz.underlying3 (hval 3 3 v3 rfl rfl) h3
  obtain ⟨a4,_,g4⟩:=arg_int Tryz.underlying3 (hval 4 3 v4 rfl rfl) h4
  obtain ⟨a5,_,g5⟩:=arg_slice (sz:=1) Tryz.underlying28 (by kernel_rfl) (by decide) (fun _=>rfl) (elem_int Tryz.underlying3) (hval 5 28 v5 rfl rfl) h5
  refine (calls_of (ScaleWeights_ok a0 a1 a2 a3 a4 a5) (W:=W) (args:=#[v0,v1,v2,v3,v4,v5]) rfl fun i x v hx hv=>?_).mono ?_
  · match i,hx,hv with
    | 0,hx,hv=>simp at hx hv;subst hx;subst hv;first | exact g0 | simpa using g0
    | 1,hx,hv=>simp at hx hv;subst hx;subst hv;first | exact g1 | simpa using g1
    | 2,hx,hv=>simp at hx hv;subst hx;subst hv;first | exact g2 | simpa using g2
    | 3,hx,hv=>simp at hx hv;subst hx;subst hv;first | exact g3 | simpa using g3
    | 4,hx,hv=>simp at hx hv;subst hx;subst hv;first | exact g4 | simpa using g4
    | 5,hx,hv=>simp at hx hv;subst hx;subst hv;first | exact g5 | simpa using g5
  · rintro e W' ⟨rfl,hB⟩
    exact ⟨_,rfl,law_post laidOut rfl rfl Tryz.underlying4 (by kernel_rfl) hW' rfl hB⟩
theorem over:Rows.scaleWeightsRow.holds Tryz.pinned (OpenSpec.ofChange Rows.scaleWeightsSpec):=
  OpenClaim.holds_of_wide 3 Tryz.f3 rfl rfl rfl rfl rfl rfl rfl ⟨rfl,rfl,rfl,rfl,rfl⟩ rfl rfl rfl rfl rfl (by kernel_rfl) Tryz.func3 (by kernel_rfl)
    (of_decide_eq_true (by kernel_rfl)) (by unfold Func.isWrapper;first | (rw [if_pos (by decide +kernel)];kernel_rfl) | (rw [if_neg (by decide +kernel)];exact ⟨rfl,rfl⟩))
    (fun os started H enc _=>lifted os started H enc)
theorem proved:Rows.ScaleWeightsSaid:=over
#print axioms proved
end Go.Proofs.YtojjfnhjmfokhaaGreat.scaleWeights
