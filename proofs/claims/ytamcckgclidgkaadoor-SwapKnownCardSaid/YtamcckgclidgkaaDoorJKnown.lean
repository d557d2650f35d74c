/- SwapKnown: for every input (there is none) the law returns true: the card, its listed variables tied to the program's text. -/
import Derived.Test.YtamcckgclidgkaaDoorCards
import Derived.Test.YtamcckgclidgkaaDoorTie
import Derived.Test.YtamcckgclidgkaaDoorJx
import Derived.Test.YtamcckgclidgkaaDoorXw
import Derived.OpenShut
import Derived.LaidLaws
import Derived.LaidHandle
import Derived.SevenTiedAt
namespace Go.Proofs.YtamcckgclidgkaaDoor.swapKnown
open Go.ChangeShapes Go.WideShapes Go.ChangeAt Go.RowKit Go.Sim
set_option linter.unusedVariables false

theorem own : ownKnob Tryd.prog.godebug = none := by kernel_rfl
theorem laidOut : laidOutB Tryd.prog = true := by kernel_rfl
theorem tabG : Tryd.prog.globalNamed (globName Tryd.prog 0) = some 0 := by kernel_rfl
theorem tabT : (Tryd.prog.globals[0]?).map (·.type) = some 116 := by kernel_rfl
theorem tabE : Tryd.prog.underlying 108 = some (.int .u64) := by kernel_rfl
theorem tabA : Tryd.prog.underlying 116 = some (.array 20 108) := by kernel_rfl
theorem listed {W : World} (h : laidMetH Tryd.prog Rows.swapKnownRow.laid W) : Lib.TabIs Tryd.prog W (globName Tryd.prog 0) .u64 Lib.pow10Tab := by
  have h' : laidMet Tryd.prog Rows.swapKnownRow.laid W := h
  obtain ⟨ps, hv, _⟩ := h'
  obtain ⟨n, hn, hnn⟩ : ∃ n, Rows.swapKnownRow.laid[2]? = some (n, Rows.laid_internal_strconv_uint64pow10) ∧ n = (globName Tryd.prog 0) := ⟨_, rfl, by kernel_rfl⟩
  obtain ⟨g, t, cs, fuel, p, g1, g2, g3, g4⟩ := LaidVars_at hv _ _ (List.mem_of_getElem? hn)
  rw [hnn] at g1 g3
  obtain rfl := Option.some.inj (tabG.symm.trans g1)
  obtain rfl := Option.some.inj (tabT.symm.trans g2)
  have := Lib.cells_of_tab (k := .u64) (zs := Lib.pow10Tab) tabA tabE (by kernel_rfl) (by kernel_rfl) g4
  unfold Lib.TabIs
  rw [g3, ← this]
theorem witnessed (os : Os) : laidMetH Tryd.prog Rows.swapKnownRow.laid ((laidW Tryd.prog (World.holding Tryd.prog os ⟨#[], #[], []⟩) Rows.swapKnownRow.laid).forCall (fun _ _ => 0) ⟨#[], #[], []⟩).memory :=
  show laidMet Tryd.prog Rows.swapKnownRow.laid _ from laidMet_of_run' 3 (by kernel_rfl) (by kernel_rfl)

set_option maxRecDepth 100000 in
theorem lifted (os : Os) (started : os.Started) (H : Type) (enc : TypeId × Value → H) :
    ReturnsInHanded {} Tryd.checked os 3 .any (fun w args => (Rows.swapKnownSpec.pre enc Tryd.prog Tryd.f3 [] false w args ∧ laidMetH Tryd.prog Rows.swapKnownRow.laid w) ∧ sizedMet enc Tryd.prog Tryd.f3 (OpenSpec.ofChange Rows.swapKnownSpec) false w args)
      (Rows.swapKnownSpec.post enc Tryd.prog Tryd.f3 false true false false) := by
  refine returnsInHanded_of_change_and (C := Tryd.checked) (X := fun w _ => laidMetH Tryd.prog Rows.swapKnownRow.laid w) (fun _ _ _ hh h => h.of_heap hh) own started (by kernel_rfl) Tryd.func3
    (ChangeSpec.witness_at (enc := enc) (C := Tryd.checked) (os := os) (X := fun w _ => laidMetH Tryd.prog Rows.swapKnownRow.laid w) false (laidW Tryd.prog (World.holding Tryd.prog os ⟨#[], #[], []⟩) Rows.swapKnownRow.laid) #[] 8 (by rw [laidW_os]; rfl) (by kernel_rfl) (by kernel_rfl) (by kernel_rfl) (by kernel_rfl) (by kernel_rfl) (witnessed os)) ?_
  intro W base args ds gs before hval0 hW _ _ hL _
  have hW' := hW
  obtain ⟨p, q, hA0, hV, rfl, hfz, hnd⟩ := hW
  have hA : DataW.TrodAll enc Tryd.prog W 0 (fun _ => true) true Tryd.f3.params.toList args.toList ds p := hA0
  rw [Tryd.params3] at hA
  obtain ⟨hargs, rfl, rfl⟩ := trodAll_nil hA
  obtain rfl : args = #[] := by cases args; simp_all
  obtain ⟨rfl, rfl⟩ := trodVars_none hV
  have ht := listed hL
  obtain ⟨ob, hob⟩ : ∃ ob, W.heap[0]? = some ob := by
    have h := ht
    unfold Lib.TabIs World.var? at h
    rw [tabG] at h
    cases hx : W.heap[0]? with
    | none => simp [hx] at h
    | some ob => exact ⟨ob, rfl⟩
  refine (calls_of1 (W := W) (args := #[]) (SwapKnown_ok ob) tabG hob ht rfl fun i x v hx hv => by simp at hx).mono ?_
  rintro e W' ⟨rfl, hB⟩
  exact ⟨_, rfl, law_post laidOut rfl rfl Tryd.underlying4 (by kernel_rfl) hW' rfl hB⟩

theorem over : Rows.swapKnownRow.holds Tryd.pinned (OpenSpec.ofChange Rows.swapKnownSpec) :=
  OpenClaim.holds_of_wide 3 Tryd.f3 rfl rfl rfl rfl rfl rfl rfl ⟨rfl, rfl, rfl, rfl, rfl⟩ rfl rfl rfl rfl rfl (by kernel_rfl) Tryd.func3 (by kernel_rfl)
    (of_decide_eq_true (by kernel_rfl)) (by unfold Func.isWrapper; first | (rw [if_pos (by decide +kernel)]; kernel_rfl) | (rw [if_neg (by decide +kernel)]; exact ⟨rfl, rfl⟩))
    (fun os started H enc _ => lifted os started H enc)

theorem proved : Rows.SwapKnownCardSaid :=
  Claim7.holds_tied_plain_at .later [] [.data, .data, .data] true (Rows.swapKnownCard.stood.harness) false
    over (fun _ h => by cases h) (by kernel_rfl) (fun _ h => by cases h) swapKnown_row_tie rfl ⟨rfl, rfl⟩ (by kernel_rfl) rfl
    (fun f fn hf hfn => by
      obtain rfl : f = 3 := Option.some.inj ((show Tryd.prog.funcNamed Rows.swapKnownRow.func = some 3 by kernel_rfl).symm.trans hf) |>.symm
      obtain rfl : fn = Tryd.f3 := (Option.some.inj (Tryd.func3.symm.trans hfn)).symm
      exact ⟨by kernel_rfl, fun j t ht => by
        rw [Tryd.params3] at ht
        simp at ht⟩)
    (by kernel_rfl)
#print axioms proved
end Go.Proofs.YtamcckgclidgkaaDoor.swapKnown
