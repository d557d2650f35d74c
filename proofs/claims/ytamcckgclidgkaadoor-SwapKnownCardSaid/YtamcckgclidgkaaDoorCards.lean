/-
  DERIVED. GIVEN WITH THE SEED: THE CARDS: each row of YtamcckgclidgkaaDoorRows.lean that lists a variable, with what it lists TIED to the program's text (the seventh form; the later family's looks); each row that meets fmt, with fmt's text TOLD by the authors' own Lean function (tested against real Go, not proved from fmt's source: count such statements apart). THE CARD IS WHAT COUNTS. Prove the row's statement (the work); the ties are given (YtamcckgclidgkaaDoorTie.lean); close each card by the builder's one call (the guide's Derived/Test/ToyasCard.lean, 'card_holds'). Laid BY PROGRAM, IN A SANDBOX (cutbox-door.mjs). By AI agents, Wed Nov 11 2026. No macro, syntax, notation, axiom, sorry.
-/
import Derived.Test.YtamcckgclidgkaaDoorRows
import GoSem.ClaimSeven
namespace Go.Proofs.YtamcckgclidgkaaDoor
namespace Rows

/-- THE TIED CARD OF 'shambleslaw06.SwapKnown'. -/
def swapKnownCard : Claim7 := { stood := { row := swapKnownRow, standIns := [], harness := (true, "10e5d4b734360aa68eb072a319dda395f8cb2cecee46a4a3539a1fbe2f8bda80"), looks := false }, kinds := [], alts := [], laidByText := true, laidKinds := [.data, .data, .data], laidTests := true, laidLooks := .later }
def SwapKnownCardSaid : Prop := Claim7.holds Tryd.pinned (.plain (OpenSpec.ofChange swapKnownSpec)) swapKnownCard

/-- THE SECOND FORM's CARD OF 'shambleslaw06.SwapKnown'. -/
def swapKnownUptoCard : Claim7 := { stood := { row := swapKnownUptoRow, standIns := [], harness := (true, "10e5d4b734360aa68eb072a319dda395f8cb2cecee46a4a3539a1fbe2f8bda80"), looks := false }, kinds := [], alts := [], laidByText := true, laidKinds := [.data, .data, .data], laidTests := true, laidLooks := .later }
def SwapKnownUptoCardSaid : Prop := Claim7.holds Tryd.pinned (.plain (OpenSpec.upto swapKnownSpec)) swapKnownUptoCard
end Rows
end Go.Proofs.YtamcckgclidgkaaDoor
