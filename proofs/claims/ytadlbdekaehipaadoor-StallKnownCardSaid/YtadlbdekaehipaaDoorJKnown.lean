/- StallKnown: for every input the law returns true, and its arguments read as before. No condition. -/
import Derived.Test.YtadlbdekaehipaaDoorCards
import Derived.Test.YtadlbdekaehipaaDoorTie
import Derived.Test.YtadlbdekaehipaaDoorJk
import Derived.LaidLaws
import Derived.LaidHandle
import Derived.SevenTiedAt
import Derived.Lay
import Derived.MakeChecks
import Derived.Test.YtadlbdekaehipaaDoorRows
import Derived.Test.YtadlbdekaehipaaDoorJa
import Derived.Test.YtadlbdekaehipaaDoorIo
import Derived.OpenShut
namespace Go.Proofs.YtadlbdekaehipaaDoor.stallKnown
open Go.ChangeShapes Go.WideShapes Go.ChangeAt Go.RowKit Go.Sim
set_option linter.unusedVariables false
theorem own:ownKnob Tryd.prog.godebug=none:=by kernel_rfl
theorem laidOut:laidOutB Tryd.prog=true:=by kernel_rfl
theorem plain {W:World}(h:laidMetH Tryd.prog Rows.stallKnownRow.laid W):laidMet Tryd.prog Rows.stallKnownRow.laid W:=by rw [MakeChecks.laidMetH_plain _ _ _ (by kernel_rfl)] at h;exact h
theorem listed {W:World}(h0:laidMetH Tryd.prog Rows.stallKnownRow.laid W):LibW W∧WordsAt W:=by
  have h:=plain h0
  obtain ⟨n0,e0,k0⟩:∃n,Rows.stallKnownRow.laid[2]?=some (n,Rows.laid_internal_strconv_uint64pow10)∧n=globName Tryd.prog 1:=⟨_,rfl,by kernel_rfl⟩
  obtain ⟨n1,e1,k1⟩:∃n,Rows.stallKnownRow.laid[3]?=some (n,Rows.laid_shambles_stall_words)∧n=globName Tryd.prog 0:=⟨_,rfl,by kernel_rfl⟩
  refine ⟨?_, ?_⟩
  · subst k0;exact tab_laid h (List.mem_of_getElem? e0) g_pow (t:=129) (te:=100) (N:=20) (by kernel_rfl) (by kernel_rfl) (by kernel_rfl) (by kernel_rfl) (by kernel_rfl) (by rfl)
  · subst k1;exact strs_laid h (List.mem_of_getElem? e1) (g:=0) (t:=77) (te:=9) (N:=4) (ss:=[[],[108,111,116],[121,101,97,114,115],[98,105,100]]) (by kernel_rfl) (by kernel_rfl) (by kernel_rfl) (by kernel_rfl) (by kernel_rfl) (by kernel_rfl) (by rfl)
set_option maxRecDepth 100000 in
theorem lifted (os:Os) (started:os.Started) (H:Type) (enc:TypeId×Value→H) :
    ReturnsInHanded {} Tryd.checked os 3 .any (fun w args=>(Rows.stallKnownSpec.pre enc Tryd.prog Tryd.f3 [] false w args∧laidMetH Tryd.prog Rows.stallKnownRow.laid w)∧sizedMet enc Tryd.prog Tryd.f3 (OpenSpec.ofChange Rows.stallKnownSpec) false w args)
      (Rows.stallKnownSpec.post enc Tryd.prog Tryd.f3 false true false false):=by
  refine returns_andS (C:=Tryd.checked) (X:=fun w _=>laidMetH Tryd.prog Rows.stallKnownRow.laid w) (fun _ _ _ hh h=>h.of_heap hh) own started (by kernel_rfl) Tryd.func3
    (ChangeSpec.witness_shaped (enc:=enc) (C:=Tryd.checked) (os:=os) (X:=fun w _=>laidMetH Tryd.prog Rows.stallKnownRow.laid w) false (World.laidAll Tryd.prog os Rows.stallKnownRow.laid) #[] 8 (World.laidAll_os _ _ _)
      (World.shaped_of_ZipB (by kernel_rfl) (by kernel_rfl)) (by kernel_rfl) (by kernel_rfl) (by kernel_rfl)
      (by rw [MakeChecks.laidMetH_plain _ _ _ (by kernel_rfl)];exact laidMet_laidAll _ (by kernel_rfl) (by kernel_rfl))) ?_
  intro W base args ds gs before hval0 hW hcnd hL hsh
  have hval:∀(j:Nat) t v,Tryd.f3.params[j]?=some t→args[j]?=some v→Value.okWide Tryd.prog W .any base t v:=hval0
  have hW':=hW
  obtain ⟨p,q,hA0,hV,rfl,hfz,hnd⟩:=hW
  have hA:DataW.TrodAll enc Tryd.prog W 0 (fun _=>true) true Tryd.f3.params.toList args.toList ds p:=hA0
  rw [Tryd.params3] at hA hval
  obtain ⟨hargs,rfl,rfl⟩:=trodAll_nil hA
  obtain rfl:args = #[]:=by cases args;simp_all
  obtain ⟨rfl,rfl⟩:=trodVars_none hV
  refine (calls_of2 (StallKnown_ok (lbOf W (listed hL).1 (listed hL).2) ) (W:=W) (lbOf_in _ _) (args:=#[]) rfl fun i x v hx hv=>by simp at hx).mono ?_
  · rintro e W' ⟨rfl,hB⟩
    exact ⟨_,rfl,law_post laidOut rfl rfl Tryd.underlying4 (by kernel_rfl) hW' rfl hB⟩
theorem over:Rows.stallKnownRow.holds Tryd.pinned (OpenSpec.ofChange Rows.stallKnownSpec):=
  OpenClaim.holds_of_wide 3 Tryd.f3 rfl rfl rfl rfl rfl rfl rfl ⟨rfl,rfl,rfl,rfl,rfl⟩ rfl rfl rfl rfl rfl (by kernel_rfl) Tryd.func3 (by kernel_rfl)
    (of_decide_eq_true (by kernel_rfl)) (by unfold Func.isWrapper;first | (rw [if_pos (by decide +kernel)];kernel_rfl) | (rw [if_neg (by decide +kernel)];exact ⟨rfl,rfl⟩))
    (fun os started H enc _=>lifted os started H enc)
theorem proved : Rows.StallKnownCardSaid :=
  Claim7.holds_tied_plain_at .later [] [.data,.data,.data,.widerDeep] true (Rows.stallKnownCard.stood.harness) false
    over (fun _ h=>by cases h) (by kernel_rfl) (fun _ h=>by cases h) stallKnown_row_tie rfl ⟨rfl,rfl⟩ (by kernel_rfl) rfl
    (fun f fn hf hfn=>by
      obtain rfl:f=3:=Option.some.inj ((show Tryd.prog.funcNamed Rows.stallKnownRow.func=some 3 by kernel_rfl).symm.trans hf) |>.symm
      obtain rfl:fn=Tryd.f3:=(Option.some.inj (Tryd.func3.symm.trans hfn)).symm
      exact ⟨by kernel_rfl,fun j t ht=>by
        rw [Tryd.params3] at ht
        have hm:t∈[]:=by simpa using Array.mem_of_getElem? ht
        have hall:([].all fun u=>!Tryd.prog.wantsStandIn u)=true:=by kernel_rfl
        exact (show Tryd.prog.wantsStandIn t=false by simpa using List.all_eq_true.1 hall t hm)⟩)
    (by kernel_rfl)
#print axioms proved
end Go.Proofs.YtadlbdekaehipaaDoor.stallKnown
