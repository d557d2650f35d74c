/- SwapRead: for every input the law returns true, and its arguments read as before. No condition. -/
import Derived.Test.YtholkejjmookfaaDoorCards
import Derived.Test.YtholkejjmookfaaDoorTie
import Derived.Test.YtholkejjmookfaaDoorJl
import Derived.LaidLaws
import Derived.LaidHandle
import Derived.SevenTiedAt
import Derived.Lay
import Derived.MakeChecks
import Derived.Test.YtholkejjmookfaaDoorRows
import Derived.Test.YtholkejjmookfaaDoorJa
import Derived.Test.YtholkejjmookfaaDoorIo
import Derived.OpenShut
namespace Go.Proofs.YtholkejjmookfaaDoor.swapRead
open Go.ChangeShapes Go.WideShapes Go.ChangeAt Go.RowKit Go.Sim
set_option linter.unusedVariables false
theorem own:ownKnob Tryd.prog.godebug=none:=by kernel_rfl
theorem laidOut:laidOutB Tryd.prog=true:=by kernel_rfl
theorem plain {W:World}(h:laidMetH Tryd.prog Rows.swapReadRow.laid W):laidMet Tryd.prog Rows.swapReadRow.laid W:=by rw [MakeChecks.laidMetH_plain _ _ _ (by kernel_rfl)] at h;exact h
theorem listed {W:World}(hs:W.ShapedOpen Tryd.prog) (h0:laidMetH Tryd.prog Rows.swapReadRow.laid W):LibW W:=by
  have h:=plain h0
  obtain ⟨n0,e0,k0⟩:∃n,Rows.swapReadRow.laid[2]?=some (n,Rows.laid_internal_strconv_uint64pow10)∧n=globName Tryd.prog 0:=⟨_,rfl,by kernel_rfl⟩
  obtain ⟨n1,e1,k1⟩:∃n,Rows.swapReadRow.laid[5]?=some (n,Rows.laid_strconv_ErrSyntax)∧n=globName Tryd.prog 2:=⟨_,rfl,by kernel_rfl⟩
  obtain ⟨n2,e2,k2⟩:∃n,Rows.swapReadRow.laid[4]?=some (n,Rows.laid_strconv_ErrRange)∧n=globName Tryd.prog 3:=⟨_,rfl,by kernel_rfl⟩
  refine ⟨?_, ?_, ?_, ?_⟩
  · subst k0;exact tab_laid h (List.mem_of_getElem? e0) g_pow (t:=126) (te:=57) (N:=20) (by kernel_rfl) (by kernel_rfl) (by kernel_rfl) (by kernel_rfl) (by kernel_rfl) (by rfl)
  · exact Go.Proofs.cell_of_shapedOpen_int hs (t:=3) (zero:=#[.int .i64 0]) (of_decide_eq_true (by kernel_rfl)) (by kernel_rfl) (by kernel_rfl) (by kernel_rfl) (by kernel_rfl) (by kernel_rfl)
  · subst k1; exact err_laid h (List.mem_of_getElem? e1) (t := 67) (ms := #[("Error", 72)]) (by kernel_rfl) (by kernel_rfl) (by kernel_rfl)
  · subst k2; exact err_laid h (List.mem_of_getElem? e2) (t := 67) (ms := #[("Error", 72)]) (by kernel_rfl) (by kernel_rfl) (by kernel_rfl)
set_option maxRecDepth 100000 in
theorem lifted (os:Os) (started:os.Started) (H:Type) (enc:TypeId×Value→H) :
    ReturnsInHanded {} Tryd.checked os 3 .any (fun w args=>(Rows.swapReadSpec.pre enc Tryd.prog Tryd.f3 [] false w args∧laidMetH Tryd.prog Rows.swapReadRow.laid w)∧sizedMet enc Tryd.prog Tryd.f3 (OpenSpec.ofChange Rows.swapReadSpec) false w args)
      (Rows.swapReadSpec.post enc Tryd.prog Tryd.f3 false true false false):=by
  refine returns_andS (C:=Tryd.checked) (X:=fun w _=>laidMetH Tryd.prog Rows.swapReadRow.laid w) (fun _ _ _ hh h=>h.of_heap hh) own started (by kernel_rfl) Tryd.func3
    (ChangeSpec.witness_shaped (enc:=enc) (C:=Tryd.checked) (os:=os) (X:=fun w _=>laidMetH Tryd.prog Rows.swapReadRow.laid w) false (World.laidAll Tryd.prog os Rows.swapReadRow.laid) #[.slice none 0 0,.string ⟨#[]⟩] 8 (World.laidAll_os _ _ _)
      (World.shaped_of_ZipB (by kernel_rfl) (by kernel_rfl)) (by kernel_rfl) (by kernel_rfl) (by kernel_rfl)
      (by rw [MakeChecks.laidMetH_plain _ _ _ (by kernel_rfl)];exact laidMet_laidAll _ (by kernel_rfl) (by kernel_rfl))) ?_
  intro W base args ds gs before hval0 hW hcnd hL hsh
  have hval:∀(j:Nat) t v,Tryd.f3.params[j]?=some t→args[j]?=some v→Value.okWide Tryd.prog W .any base t v:=hval0
  have hW':=hW
  obtain ⟨p,q,hA0,hV,rfl,hfz,hnd⟩:=hW
  have hA:DataW.TrodAll enc Tryd.prog W 0 (fun _=>true) true Tryd.f3.params.toList args.toList ds p:=hA0
  rw [Tryd.params3] at hA hval
  obtain ⟨v0,vs0,d0,ds0,p0,q0,hargs,rfl,rfl,h0,r0⟩:=trodAll_cons hA
  obtain ⟨v1,vs1,d1,ds1,p1,q1,rfl,rfl,rfl,h1,r1⟩:=trodAll_cons r0
  obtain ⟨rfl,rfl,rfl⟩:=trodAll_nil r1
  obtain rfl:args = #[v0,v1]:=by cases args;simp_all
  obtain ⟨rfl,rfl⟩:=trodVars_none hV
  obtain ⟨a0,_,g0⟩:=arg_slice (sz:=1) Tryd.underlying22 (by kernel_rfl) (by decide) (fun _=>rfl) (elem_int Tryd.underlying3) (hval 0 22 v0 rfl rfl) h0
  obtain ⟨a1,g1⟩:=arg_string Tryd.underlying9 (hval 1 9 v1 rfl rfl) h1
  refine (calls_of2 (SwapRead_ok (lbOf W (listed hsh hL)) a0 a1) (W:=W) (lbOf_in _) (args:=#[v0,v1]) rfl fun i x v hx hv=>?_).mono ?_
  · match i,hx,hv with
    | 0,hx,hv=>simp at hx hv;subst hx;subst hv;first | exact g0 | simpa using g0
    | 1,hx,hv=>simp at hx hv;subst hx;subst hv;first | exact g1 | simpa using g1
  · rintro e W' ⟨rfl,hB⟩
    exact ⟨_,rfl,law_post laidOut rfl rfl Tryd.underlying4 (by kernel_rfl) hW' rfl hB⟩
theorem over:Rows.swapReadRow.holds Tryd.pinned (OpenSpec.ofChange Rows.swapReadSpec):=
  OpenClaim.holds_of_wide 3 Tryd.f3 rfl rfl rfl rfl rfl rfl rfl ⟨rfl,rfl,rfl,rfl,rfl⟩ rfl rfl rfl rfl rfl (by kernel_rfl) Tryd.func3 (by kernel_rfl)
    (of_decide_eq_true (by kernel_rfl)) (by unfold Func.isWrapper;first | (rw [if_pos (by decide +kernel)];kernel_rfl) | (rw [if_neg (by decide +kernel)];exact ⟨rfl,rfl⟩))
    (fun os started H enc _=>lifted os started H enc)
theorem proved : Rows.SwapReadCardSaid :=
  Claim7.holds_tied_plain_at .later [] [.data,.data,.data,.data,.sentinel,.sentinel,.pinned] true (Rows.swapReadCard.stood.harness) true
    over (fun _ h=>by cases h) (by kernel_rfl) (fun _ h=>by cases h) swapRead_row_tie rfl ⟨rfl,rfl⟩ (by kernel_rfl) rfl
    (fun f fn hf hfn=>by
      obtain rfl:f=3:=Option.some.inj ((show Tryd.prog.funcNamed Rows.swapReadRow.func=some 3 by kernel_rfl).symm.trans hf) |>.symm
      obtain rfl:fn=Tryd.f3:=(Option.some.inj (Tryd.func3.symm.trans hfn)).symm
      exact ⟨by kernel_rfl,fun j t ht=>by
        rw [Tryd.params3] at ht
        have hm:t∈[22,9]:=by simpa using Array.mem_of_getElem? ht
        have hall:([22,9].all fun u=>!Tryd.prog.wantsStandIn u)=true:=by kernel_rfl
        exact (show Tryd.prog.wantsStandIn t=false by simpa using List.all_eq_true.1 hall t hm)⟩)
    (by kernel_rfl)
#print axioms proved
end Go.Proofs.YtholkejjmookfaaDoor.swapRead
