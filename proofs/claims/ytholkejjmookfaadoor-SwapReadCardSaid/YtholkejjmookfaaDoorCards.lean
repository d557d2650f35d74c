/-
  DERIVED. GIVEN WITH THE SEED: THE CARDS: each row of YtholkejjmookfaaDoorRows.lean that lists a variable, with what it lists TIED to the program's text (the seventh form; the later family's looks); each row that meets fmt, with fmt's text TOLD by the authors' own Lean function (tested against real Go, not proved from fmt's source: count such statements apart). THE CARD IS WHAT COUNTS. Prove the row's statement (the work); the ties are given (YtholkejjmookfaaDoorTie.lean); close each card by the builder's one call (the guide's Derived/Test/ToyasCard.lean, 'card_holds'). Laid BY PROGRAM, IN A SANDBOX (cutbox-door.mjs). By AI agents, Wed Nov 11 2026. No macro, syntax, notation, axiom, sorry.
-/
import Derived.Test.YtholkejjmookfaaDoorRows
import GoSem.ClaimSeven
namespace Go.Proofs.YtholkejjmookfaaDoor
namespace Rows

/-- THE TIED CARD OF 'shambleslaw06.SwapRead'. -/
def swapReadCard : Claim7 := { stood := { row := swapReadRow, standIns := [], harness := (true, "2eda297b24238b2b4fa3567e5c477246c6749cef384e33b3e6d0b4b04081138e"), looks := true }, kinds := [], alts := [], laidByText := true, laidKinds := [.data, .data, .data, .data, .sentinel, .sentinel, .pinned], laidTests := true, laidLooks := .later }
def SwapReadCardSaid : Prop := Claim7.holds Tryd.pinned (.plain (OpenSpec.ofChange swapReadSpec)) swapReadCard

/-- THE SECOND FORM's CARD OF 'shambleslaw06.SwapRead'. -/
def swapReadUptoCard : Claim7 := { stood := { row := swapReadUptoRow, standIns := [], harness := (true, "2eda297b24238b2b4fa3567e5c477246c6749cef384e33b3e6d0b4b04081138e"), looks := true }, kinds := [], alts := [], laidByText := true, laidKinds := [.data, .data, .data, .data, .sentinel, .sentinel, .pinned], laidTests := true, laidLooks := .later }
def SwapReadUptoCardSaid : Prop := Claim7.holds Tryd.pinned (.plain (OpenSpec.upto swapReadSpec)) swapReadUptoCard
end Rows
end Go.Proofs.YtholkejjmookfaaDoor
