/-
  DERIVED. GIVEN WITH THE SEED: THE CARDS: each row of YtfcmfoacedbleaaDoorRows.lean that lists a variable, with what it lists TIED to the program's text (the seventh form; the later family's looks); each row that meets fmt, with fmt's text TOLD by the authors' own Lean function (tested against real Go, not proved from fmt's source: count such statements apart). THE CARD IS WHAT COUNTS. Prove the row's statement (the work); the ties are given (YtfcmfoacedbleaaDoorTie.lean); close each card by the builder's one call (the guide's Derived/Test/ToyasCard.lean, 'card_holds'). Laid BY PROGRAM, IN A SANDBOX (cutbox-door.mjs). By AI agents, Wed Nov 11 2026. No macro, syntax, notation, axiom, sorry.
-/
import Derived.Test.YtfcmfoacedbleaaDoorRows
import GoSem.ClaimSeven
namespace Go.Proofs.YtfcmfoacedbleaaDoor
namespace Rows

/-- THE TIED CARD OF 'shambleslaw01.ScaleExamples'. -/
def scaleExamplesCard : Claim7 := { stood := { row := scaleExamplesRow, standIns := [], harness := (true, "2dac0c776021fe3ac28899de5564641ce72f3b317ac550b5a2093db82b49ea76"), looks := false }, kinds := [], alts := [], laidByText := true, laidKinds := [.data, .data, .data], laidTests := true, laidLooks := .later }
def ScaleExamplesCardSaid : Prop := Claim7.holds Tryd.pinned (.plain (OpenSpec.ofChange scaleExamplesSpec)) scaleExamplesCard

/-- THE SECOND FORM's CARD OF 'shambleslaw01.ScaleExamples'. -/
def scaleExamplesUptoCard : Claim7 := { stood := { row := scaleExamplesUptoRow, standIns := [], harness := (true, "2dac0c776021fe3ac28899de5564641ce72f3b317ac550b5a2093db82b49ea76"), looks := false }, kinds := [], alts := [], laidByText := true, laidKinds := [.data, .data, .data], laidTests := true, laidLooks := .later }
def ScaleExamplesUptoCardSaid : Prop := Claim7.holds Tryd.pinned (.plain (OpenSpec.upto scaleExamplesSpec)) scaleExamplesUptoCard
end Rows
end Go.Proofs.YtfcmfoacedbleaaDoor
