/- SwapLedgers: for every input the law returns true, and its arguments read as before. No condition. -/
import Derived.Test.YtholkejjmookfaaGreatDoorCards
import Derived.Test.YtholkejjmookfaaGreatDoorTie
import Derived.Test.YtholkejjmookfaaGreatDoorJl
import Derived.LaidLaws
import Derived.LaidHandle
import Derived.SevenTiedAt
import Derived.Lay
import Derived.MakeChecks
import Derived.Test.YtholkejjmookfaaGreatDoorRows
import Derived.Test.YtholkejjmookfaaGreatDoorJa
import Derived.Test.YtholkejjmookfaaGreatDoorIk
import Derived.OpenShut
namespace Go.Proofs.YtholkejjmookfaaGreatDoor.swapLedgers
open Go.ChangeShapes Go.WideShapes Go.ChangeAt Go.RowKit Go.Sim
set_option linter.unusedVariables false
theorem own:ownKnob Tryz.prog.godebug=none:=by kernel_rfl
theorem laidOut:laidOutB Tryz.prog=true:=by kernel_rfl
theorem plain {W:World}(h:laidMetH Tryz.prog Rows.swapLedgersRow.laid W):laidMet Tryz.prog Rows.swapLedgersRow.laid W:=by rw [MakeChecks.laidMetH_plain _ _ _ (by kernel_rfl)] at h;exact h
theorem listed {W:World}(hs:W.ShapedOpen Tryz.prog) (h0:laidMetH Tryz.prog Rows.swapLedgersRow.laid W):LibW W:=by
  have h:=plain h0
  obtain ⟨n0,e0,k0⟩:∃n,Rows.swapLedgersRow.laid[2]?=some (n,Rows.laid_internal_strconv_uint64pow10)∧n=globName Tryz.prog 0:=⟨_,rfl,by kernel_rfl⟩
  obtain ⟨n1,e1,k1⟩:∃n,Rows.swapLedgersRow.laid[5]?=some (n,Rows.laid_strconv_ErrSyntax)∧n=globName Tryz.prog 2:=⟨_,rfl,by kernel_rfl⟩
  obtain ⟨n2,e2,k2⟩:∃n,Rows.swapLedgersRow.laid[4]?=some (n,Rows.laid_strconv_ErrRange)∧n=globName Tryz.prog 3:=⟨_,rfl,by kernel_rfl⟩
  refine ⟨?_, ?_, ?_, ?_⟩
  · subst k0;exact tab_laid h (List.mem_of_getElem? e0) g_pow (t:=133) (te:=61) (N:=20) (by kernel_rfl) (by kernel_rfl) (by kernel_rfl) (by kernel_rfl) (by kernel_rfl) (by rfl)
  · exact Go.Proofs.cell_of_shapedOpen_int hs (t:=3) (zero:=#[.int .i64 0]) (of_decide_eq_true (by kernel_rfl)) (by kernel_rfl) (by kernel_rfl) (by kernel_rfl) (by kernel_rfl) (by kernel_rfl)
  · subst k1; exact err_laid h (List.mem_of_getElem? e1) (t := 71) (ms := #[("Error", 76)]) (by kernel_rfl) (by kernel_rfl) (by kernel_rfl)
  · subst k2; exact err_laid h (List.mem_of_getElem? e2) (t := 71) (ms := #[("Error", 76)]) (by kernel_rfl) (by kernel_rfl) (by kernel_rfl)
set_option maxRecDepth 100000 in
theorem lifted (os:Os) (started:os.Started) (H:Type) (enc:TypeId×Value→H) :
    ReturnsInHanded {} Tryz.checked os 3 .any (fun w args=>(Rows.swapLedgersSpec.pre enc Tryz.prog Tryz.f3 [] false w args∧laidMetH Tryz.prog Rows.swapLedgersRow.laid w)∧sizedMet enc Tryz.prog Tryz.f3 (OpenSpec.ofChange Rows.swapLedgersSpec) false w args)
      (Rows.swapLedgersSpec.post enc Tryz.prog Tryz.f3 false true false false):=by
  refine returns_andS (C:=Tryz.checked) (X:=fun w _=>laidMetH Tryz.prog Rows.swapLedgersRow.laid w) (fun _ _ _ hh h=>h.of_heap hh) own started (by kernel_rfl) Tryz.func3
    (ChangeSpec.witness_shaped (enc:=enc) (C:=Tryz.checked) (os:=os) (X:=fun w _=>laidMetH Tryz.prog Rows.swapLedgersRow.laid w) false (World.laidAll Tryz.prog os Rows.swapLedgersRow.laid) #[.agg #[.slice none 0 0,.slice none 0 0],.string ⟨#[]⟩,.slice none 0 0,.int .i64 0,.int .i64 0,.int .u8 0] 8 (World.laidAll_os _ _ _)
      (World.shaped_of_ZipB (by kernel_rfl) (by kernel_rfl)) (by kernel_rfl) (by kernel_rfl) (by kernel_rfl)
      (by rw [MakeChecks.laidMetH_plain _ _ _ (by kernel_rfl)];exact laidMet_laidAll _ (by kernel_rfl) (by kernel_rfl))) ?_
  intro W base args ds gs before hval0 hW hcnd hL hsh
  have hval:∀(j:Nat) t v,Tryz.f3.params[j]?=some t→args[j]?=some v→Value.okWide Tryz.prog W .any base t v:=hval0
  have hW':=hW
  obtain ⟨p,q,hA0,hV,rfl,hfz,hnd⟩:=hW
  have hA:DataW.TrodAll enc Tryz.prog W 0 (fun _=>true) true Tryz.f3.params.toList args.toList ds p:=hA0
  rw [Tryz.params3] at hA hval
  obtain ⟨v0,vs0,d0,ds0,p0,q0,hargs,rfl,rfl,h0,r0⟩:=trodAll_cons hA
  obtain ⟨v1,vs1,d1,ds1,p1,q1,rfl,rfl,rfl,h1,r1⟩:=trodAll_cons r0
  obtain ⟨v2,vs2,d2,ds2,p2,q2,rfl,rfl,rfl,h2,r2⟩:=trodAll_cons r1
  obtain ⟨v3,vs3,d3,ds3,p3,q3,rfl,rfl,rfl,h3,r3⟩:=trodAll_cons r2
  obtain ⟨v4,vs4,d4,ds4,p4,q4,rfl,rfl,rfl,h4,r4⟩:=trodAll_cons r3
  obtain ⟨v5,vs5,d5,ds5,p5,q5,rfl,rfl,rfl,h5,r5⟩:=trodAll_cons r4
  obtain ⟨rfl,rfl,rfl⟩:=trodAll_nil r5
  obtain rfl:args = #[v0,v1,v2,v3,v4,v5]:=by cases args;simp_all
  obtain ⟨rfl,rfl⟩:=trodVars_none hV
  obtain ⟨a0,b0,_,_,g0⟩:=arg_struct2 Tryz.underlying25 rfl rfl (by kernel_rfl) (by kernel_rfl) (by kernel_rfl) (fun _=>rfl) (fun _=>rfl) (elem_slice (sz:=2) Tryz.underlying22 (by kernel_rfl) (by decide) (fun _=>rfl) (elem_pair Tryz.underlying57 rfl rfl Tryz.underlying3 rfl rfl (by kernel_rfl) (by kernel_rfl))) (elem_slice (sz:=1) Tryz.underlying23 (by kernel_rfl) (by decide) (fun _=>rfl) (elem_slice (sz:=2) Tryz.underlying22 (by kernel_rfl) (by decide) (fun _=>rfl) (elem_pair Tryz.underlying57 rfl rfl Tryz.underlying3 rfl rfl (by kernel_rfl) (by kernel_rfl)))) (hval 0 25 v0 rfl rfl) h0
  obtain ⟨a1,g1⟩:=arg_string Tryz.underlying9 (hval 1 9 v1 rfl rfl) h1
  obtain ⟨a2,_,g2⟩:=arg_slice (sz:=1) Tryz.underlying26 (by kernel_rfl) (by decide) (fun _=>rfl) (elem_int Tryz.underlying3) (hval 2 26 v2 rfl rfl) h2
  obtain ⟨a3,_,g3⟩:=arg_int Tryz.underlying3 (hval 3 3 v3 rfl rfl) h3
  obtain ⟨a4,_,g4⟩:=arg_int Tryz.underlying3 (hval 4 3 v4 rfl rfl) h4
  obtain ⟨a5,g5⟩:=arg_u8 Tryz.underlying5 (hval 5 5 v5 rfl rfl) h5
  refine (calls_of2 (SwapLedgers_ok (lbOf W (listed hsh hL)) a0 b0 a1 a2 a3 a4 a5) (W:=W) (lbOf_in _) (args:=#[v0,v1,v2,v3,v4,v5]) rfl fun i x v hx hv=>?_).mono ?_
  · match i,hx,hv with
    | 0,hx,hv=>simp at hx hv;subst hx;subst hv;first | exact g0 | simpa using g0
    | 1,hx,hv=>simp at hx hv;subst hx;subst hv;first | exact g1 | simpa using g1
    | 2,hx,hv=>simp at hx hv;subst hx;subst hv;first | exact g2 | simpa using g2
    | 3,hx,hv=>simp at hx hv;subst hx;subst hv;first | exact g3 | simpa using g3
    | 4,hx,hv=>simp at hx hv;subst hx;subst hv;first | exact g4 | simpa using g4
    | 5,hx,hv=>simp at hx hv;subst hx;subst hv;first | exact g5 | simpa using g5
  · rintro e W' ⟨rfl,hB⟩
    exact ⟨_,rfl,law_post laidOut rfl rfl Tryz.underlying4 (by kernel_rfl) hW' rfl hB⟩
theorem over:Rows.swapLedgersRow.holds Tryz.pinned (OpenSpec.ofChange Rows.swapLedgersSpec):=
  OpenClaim.holds_of_wide 3 Tryz.f3 rfl rfl rfl rfl rfl rfl rfl ⟨rfl,rfl,rfl,rfl,rfl⟩ rfl rfl rfl rfl rfl (by kernel_rfl) Tryz.func3 (by kernel_rfl)
    (of_decide_eq_true (by kernel_rfl)) (by unfold Func.isWrapper;first | (rw [if_pos (by decide +kernel)];kernel_rfl) | (rw [if_neg (by decide +kernel)];exact ⟨rfl,rfl⟩))
    (fun os started H enc _=>lifted os started H enc)
theorem proved : Rows.SwapLedgersCardSaid :=
  Claim7.holds_tied_plain_at .later [] [.data,.data,.data,.data,.sentinel,.sentinel,.pinned] true (Rows.swapLedgersCard.stood.harness) true
    over (fun _ h=>by cases h) (by kernel_rfl) (fun _ h=>by cases h) swapLedgers_row_tie rfl ⟨rfl,rfl⟩ (by kernel_rfl) rfl
    (fun f fn hf hfn=>by
      obtain rfl:f=3:=Option.some.inj ((show Tryz.prog.funcNamed Rows.swapLedgersRow.func=some 3 by kernel_rfl).symm.trans hf) |>.symm
      obtain rfl:fn=Tryz.f3:=(Option.some.inj (Tryz.func3.symm.trans hfn)).symm
      exact ⟨by kernel_rfl,fun j t ht=>by
        rw [Tryz.params3] at ht
        have hm:t∈[25,9,26,3,3,5]:=by simpa using Array.mem_of_getElem? ht
        have hall:([25,9,26,3,3,5].all fun u=>!Tryz.prog.wantsStandIn u)=true:=by kernel_rfl
        exact (show Tryz.prog.wantsStandIn t=false by simpa using List.all_eq_true.1 hall t hm)⟩)
    (by kernel_rfl)
#print axioms proved
end Go.Proofs.YtholkejjmookfaaGreatDoor.swapLedgers
