/-
  DERIVED. GIVEN WITH THE SEED: THE CARDS: each row of YtadlbdekaehipaaDoorRows.lean that lists a variable, with what it lists TIED to the program's text (the seventh form; the later family's looks); each row that meets fmt, with fmt's text TOLD by the authors' own Lean function (tested against real Go, not proved from fmt's source: count such statements apart). THE CARD IS WHAT COUNTS. Prove the row's statement (the work); the ties are given (YtadlbdekaehipaaDoorTie.lean); close each card by the builder's one call (the guide's Derived/Test/ToyasCard.lean, 'card_holds'). Laid BY PROGRAM, IN A SANDBOX (cutbox-door.mjs). By AI agents, Wed Nov 11 2026. No macro, syntax, notation, axiom, sorry.
-/
import Derived.Test.YtadlbdekaehipaaDoorRows
import GoSem.ClaimSeven
namespace Go.Proofs.YtadlbdekaehipaaDoor
namespace Rows

/-- THE TIED CARD OF 'shambleslaw02.StallKnown'. -/
def stallKnownCard : Claim7 := { stood := { row := stallKnownRow, standIns := [], harness := (true, "fefa544d2e512849ea443458efaee830c931e055fa2308b6cc86de69e4cd985f"), looks := false }, kinds := [], alts := [], laidByText := true, laidKinds := [.data, .data, .data, .widerDeep], laidTests := true, laidLooks := .later }
def StallKnownCardSaid : Prop := Claim7.holds Tryd.pinned (.plain (OpenSpec.ofChange stallKnownSpec)) stallKnownCard

/-- THE SECOND FORM's CARD OF 'shambleslaw02.StallKnown'. -/
def stallKnownUptoCard : Claim7 := { stood := { row := stallKnownUptoRow, standIns := [], harness := (true, "fefa544d2e512849ea443458efaee830c931e055fa2308b6cc86de69e4cd985f"), looks := false }, kinds := [], alts := [], laidByText := true, laidKinds := [.data, .data, .data, .widerDeep], laidTests := true, laidLooks := .later }
def StallKnownUptoCardSaid : Prop := Claim7.holds Tryd.pinned (.plain (OpenSpec.upto stallKnownSpec)) stallKnownUptoCard
end Rows
end Go.Proofs.YtadlbdekaehipaaDoor
