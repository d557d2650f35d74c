/-
  DERIVED. GIVEN WITH THE SEED: THE CARDS: each row of YtamcckgclidgkabDoorRows.lean that lists a variable, with what it lists TIED to the program's text (the seventh form; the later family's looks); each row that meets fmt, with fmt's text TOLD by the authors' own Lean function (tested against real Go, not proved from fmt's source: count such statements apart). THE CARD IS WHAT COUNTS. Prove the row's statement (the work); the ties are given (YtamcckgclidgkabDoorTie.lean); close each card by the builder's one call (the guide's Derived/Test/ToyasCard.lean, 'card_holds'). Laid BY PROGRAM, IN A SANDBOX (cutbox-door.mjs). By AI agents, Wed Nov 11 2026. No macro, syntax, notation, axiom, sorry.
-/
import Derived.Test.YtamcckgclidgkabDoorRows
import GoSem.ClaimSeven
namespace Go.Proofs.YtamcckgclidgkabDoor
namespace Rows

/-- THE TIED CARD OF 'shambleslaw04.ColdKnown'. -/
def coldKnownCard : Claim7 := { stood := { row := coldKnownRow, standIns := [], harness := (true, "c47fe98ddf50938d16b9a386d0052d6563813e62e861aced64cdfab1cce716cf"), looks := false }, kinds := [], alts := [], laidByText := true, laidKinds := [.data, .data, .data], laidTests := true, laidLooks := .later }
def ColdKnownCardSaid : Prop := Claim7.holds Tryd.pinned (.plain (OpenSpec.ofChange coldKnownSpec)) coldKnownCard

/-- THE SECOND FORM's CARD OF 'shambleslaw04.ColdKnown'. -/
def coldKnownUptoCard : Claim7 := { stood := { row := coldKnownUptoRow, standIns := [], harness := (true, "c47fe98ddf50938d16b9a386d0052d6563813e62e861aced64cdfab1cce716cf"), looks := false }, kinds := [], alts := [], laidByText := true, laidKinds := [.data, .data, .data], laidTests := true, laidLooks := .later }
def ColdKnownUptoCardSaid : Prop := Claim7.holds Tryd.pinned (.plain (OpenSpec.upto coldKnownSpec)) coldKnownUptoCard
end Rows
end Go.Proofs.YtamcckgclidgkabDoor
