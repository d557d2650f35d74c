/-
  DERIVED. GIVEN WITH THE SEED: THE CARDS: each row of YtholkejjmookfaaGreatDoorRows.lean that lists a variable, with what it lists TIED to the program's text (the seventh form; the later family's looks); each row that meets fmt, with fmt's text TOLD by the authors' own Lean function (tested against real Go, not proved from fmt's source: count such statements apart). THE CARD IS WHAT COUNTS. Prove the row's statement (the work); the ties are given (YtholkejjmookfaaGreatDoorTie.lean); close each card by the builder's one call (the guide's Derived/Test/ToyasCard.lean, 'card_holds'). Laid BY PROGRAM, IN A SANDBOX (cutbox-door.mjs). By AI agents, Wed Nov 11 2026. No macro, syntax, notation, axiom, sorry.
-/
import Derived.Test.YtholkejjmookfaaGreatDoorRows
import GoSem.ClaimSeven
namespace Go.Proofs.YtholkejjmookfaaGreatDoor
namespace Rows

/-- THE TIED CARD OF 'shambleslaw06.SwapLedgers'. -/
def swapLedgersCard : Claim7 := { stood := { row := swapLedgersRow, standIns := [], harness := (true, "cf0c597647966a393ce869d053804c8149bfd867085d0e60cc4e592a3346afb1"), looks := true }, kinds := [], alts := [], laidByText := true, laidKinds := [.data, .data, .data, .data, .sentinel, .sentinel, .pinned], laidTests := true, laidLooks := .later }
def SwapLedgersCardSaid : Prop := Claim7.holds Tryz.pinned (.plain (OpenSpec.ofChange swapLedgersSpec)) swapLedgersCard

/-- THE SECOND FORM's CARD OF 'shambleslaw06.SwapLedgers'. -/
def swapLedgersUptoCard : Claim7 := { stood := { row := swapLedgersUptoRow, standIns := [], harness := (true, "cf0c597647966a393ce869d053804c8149bfd867085d0e60cc4e592a3346afb1"), looks := true }, kinds := [], alts := [], laidByText := true, laidKinds := [.data, .data, .data, .data, .sentinel, .sentinel, .pinned], laidTests := true, laidLooks := .later }
def SwapLedgersUptoCardSaid : Prop := Claim7.holds Tryz.pinned (.plain (OpenSpec.upto swapLedgersSpec)) swapLedgersUptoCard
end Rows
end Go.Proofs.YtholkejjmookfaaGreatDoor
