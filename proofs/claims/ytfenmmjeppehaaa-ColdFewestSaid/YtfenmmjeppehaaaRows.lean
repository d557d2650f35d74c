/-
  No cell of these rows narrows 'for every input' (looked for: loops, veiled, ifaces, maps, wideKeys, modest, calm, conditions, laid).
  DERIVED. THE GIVEN ROWS OF THIS SEAT. 11 by the template 'for every input the law returns true; each argument reads behind the call as it read before'; 0 by the template 'total and deterministic' (their statements: YtfenmmjeppehaaaTotals.lean).
  GIVEN WITH THE SEED: the statements are not yours to turn. If you find one false, say at which input.
  Laid BY PROGRAM, IN A SANDBOX (cutbox-rows.mjs): the forced cells as the released guide's own fill.sh prints them over the translation c3ca73b5dd2ba009… (all of the seat's roots in one cut). By AI agents, Wed Nov 11 2026. No macro, syntax, notation, axiom, sorry.
-/
import Derived.Test.YtfenmmjeppehaaaChecked
import GoSem.Claim
import GoSem.ClaimJoined
import GoSem.ClaimMapViews
import Derived.JoinedTies
import Derived.KernelRfl
namespace Go.Proofs.Ytfenmmjeppehaaa
/- THE CELL 'sum', in the pinned program and in every row, IS THE sha256 OF THE DUMP (.gsa) THAT YtfenmmjeppehaaaProg.lean LOADS. Nothing in Lean hashes anything: it is a label: what it is worth is what the hold of that sum in a sandbox is worth. -/
noncomputable def Try.pinned : Pinned := { name := "ytfenmmjeppehaaa", sum := "c3ca73b5dd2ba009cf2510169b16db499cb704e7dd64bbb08850761d92afb3eb", checked := Try.checked }
namespace Rows
def none {H : Type} : Left H := { results := [], args := [] }

/-- 'shambleslaw04.ColdFills': WHATEVER THE INPUT: true; the input reads as it did. -/
def coldFillsSpec : ChangeSpec := { name := "coldFills", fn := fun _ => fun
  | [d1, d2, d3, d4, d5, d6] => { results := [.lit (.bool true)], args := [d1, d2, d3, d4, d5, d6] }
  | _ => none }
def coldFillsRow : OpenClaim := { program := "ytfenmmjeppehaaa", sum := "c3ca73b5dd2ba009cf2510169b16db499cb704e7dd64bbb08850761d92afb3eb", func := "shambles/shambleslaw04.ColdFills", spec := "coldFills", unfollowed := true, recurses := true, apart := false }
def ColdFillsSaid : Prop := coldFillsRow.holds Try.pinned (OpenSpec.ofChange coldFillsSpec)

/-- ITS FALSE NEIGHBOUR: 'it returns false'. Refute it at one input. -/
def coldFillsWrong : ChangeSpec := { name := "coldFills", fn := fun _ => fun
  | [d1, d2, d3, d4, d5, d6] => { results := [.lit (.bool false)], args := [d1, d2, d3, d4, d5, d6] }
  | _ => none }
def ColdFillsWrongFalsely : Prop := coldFillsRow.holds Try.pinned (OpenSpec.ofChange coldFillsWrong)

/-- 'shambleslaw04.ColdColder': WHATEVER THE INPUT: true; the input reads as it did. -/
def coldColderSpec : ChangeSpec := { name := "coldColder", fn := fun _ => fun
  | [d] => { results := [.lit (.bool true)], args := [d] }
  | _ => none }
def coldColderRow : OpenClaim := { program := "ytfenmmjeppehaaa", sum := "c3ca73b5dd2ba009cf2510169b16db499cb704e7dd64bbb08850761d92afb3eb", func := "shambles/shambleslaw04.ColdColder", spec := "coldColder", unfollowed := true, recurses := true, apart := false }
def ColdColderSaid : Prop := coldColderRow.holds Try.pinned (OpenSpec.ofChange coldColderSpec)

/-- ITS FALSE NEIGHBOUR: 'it returns false'. Refute it at one input. -/
def coldColderWrong : ChangeSpec := { name := "coldColder", fn := fun _ => fun
  | [d] => { results := [.lit (.bool false)], args := [d] }
  | _ => none }
def ColdColderWrongFalsely : Prop := coldColderRow.holds Try.pinned (OpenSpec.ofChange coldColderWrong)

/-- 'shambleslaw04.ColdLosses': WHATEVER THE INPUT: true; the input reads as it did. -/
def coldLossesSpec : ChangeSpec := { name := "coldLosses", fn := fun _ => fun
  | [d1, d2, d3, d4] => { results := [.lit (.bool true)], args := [d1, d2, d3, d4] }
  | _ => none }
def coldLossesRow : OpenClaim := { program := "ytfenmmjeppehaaa", sum := "c3ca73b5dd2ba009cf2510169b16db499cb704e7dd64bbb08850761d92afb3eb", func := "shambles/shambleslaw04.ColdLosses", spec := "coldLosses", unfollowed := true, recurses := true, apart := false }
def ColdLossesSaid : Prop := coldLossesRow.holds Try.pinned (OpenSpec.ofChange coldLossesSpec)

/-- ITS FALSE NEIGHBOUR: 'it returns false'. Refute it at one input. -/
def coldLossesWrong : ChangeSpec := { name := "coldLosses", fn := fun _ => fun
  | [d1, d2, d3, d4] => { results := [.lit (.bool false)], args := [d1, d2, d3, d4] }
  | _ => none }
def ColdLossesWrongFalsely : Prop := coldLossesRow.holds Try.pinned (OpenSpec.ofChange coldLossesWrong)

/-- 'shambleslaw04.ColdOn': WHATEVER THE INPUT: true; the input reads as it did. -/
def coldOnSpec : ChangeSpec := { name := "coldOn", fn := fun _ => fun
  | [d] => { results := [.lit (.bool true)], args := [d] }
  | _ => none }
def coldOnRow : OpenClaim := { program := "ytfenmmjeppehaaa", sum := "c3ca73b5dd2ba009cf2510169b16db499cb704e7dd64bbb08850761d92afb3eb", func := "shambles/shambleslaw04.ColdOn", spec := "coldOn", unfollowed := true, recurses := true, apart := false }
def ColdOnSaid : Prop := coldOnRow.holds Try.pinned (OpenSpec.ofChange coldOnSpec)

/-- ITS FALSE NEIGHBOUR: 'it returns false'. Refute it at one input. -/
def coldOnWrong : ChangeSpec := { name := "coldOn", fn := fun _ => fun
  | [d] => { results := [.lit (.bool false)], args := [d] }
  | _ => none }
def ColdOnWrongFalsely : Prop := coldOnRow.holds Try.pinned (OpenSpec.ofChange coldOnWrong)

/-- 'shambleslaw04.ColdChecks': WHATEVER THE INPUT: true; the input reads as it did. -/
def coldChecksSpec : ChangeSpec := { name := "coldChecks", fn := fun _ => fun
  | [d1, d2, d3, d4, d5] => { results := [.lit (.bool true)], args := [d1, d2, d3, d4, d5] }
  | _ => none }
def coldChecksRow : OpenClaim := { program := "ytfenmmjeppehaaa", sum := "c3ca73b5dd2ba009cf2510169b16db499cb704e7dd64bbb08850761d92afb3eb", func := "shambles/shambleslaw04.ColdChecks", spec := "coldChecks", unfollowed := true, recurses := true, apart := false }
def ColdChecksSaid : Prop := coldChecksRow.holds Try.pinned (OpenSpec.ofChange coldChecksSpec)

/-- ITS FALSE NEIGHBOUR: 'it returns false'. Refute it at one input. -/
def coldChecksWrong : ChangeSpec := { name := "coldChecks", fn := fun _ => fun
  | [d1, d2, d3, d4, d5] => { results := [.lit (.bool false)], args := [d1, d2, d3, d4, d5] }
  | _ => none }
def ColdChecksWrongFalsely : Prop := coldChecksRow.holds Try.pinned (OpenSpec.ofChange coldChecksWrong)

/-- 'shambleslaw04.ColdFewest': WHATEVER THE INPUT: true; the input reads as it did. -/
def coldFewestSpec : ChangeSpec := { name := "coldFewest", fn := fun _ => fun
  | [d] => { results := [.lit (.bool true)], args := [d] }
  | _ => none }
def coldFewestRow : OpenClaim := { program := "ytfenmmjeppehaaa", sum := "c3ca73b5dd2ba009cf2510169b16db499cb704e7dd64bbb08850761d92afb3eb", func := "shambles/shambleslaw04.ColdFewest", spec := "coldFewest", unfollowed := true, recurses := true, apart := false }
def ColdFewestSaid : Prop := coldFewestRow.holds Try.pinned (OpenSpec.ofChange coldFewestSpec)

/-- ITS FALSE NEIGHBOUR: 'it returns false'. Refute it at one input. -/
def coldFewestWrong : ChangeSpec := { name := "coldFewest", fn := fun _ => fun
  | [d] => { results := [.lit (.bool false)], args := [d] }
  | _ => none }
def ColdFewestWrongFalsely : Prop := coldFewestRow.holds Try.pinned (OpenSpec.ofChange coldFewestWrong)

/-- 'shambleslaw04.ColdTrue': WHATEVER THE INPUT: true; the input reads as it did. -/
def coldTrueSpec : ChangeSpec := { name := "coldTrue", fn := fun _ => fun
  | [d] => { results := [.lit (.bool true)], args := [d] }
  | _ => none }
def coldTrueRow : OpenClaim := { program := "ytfenmmjeppehaaa", sum := "c3ca73b5dd2ba009cf2510169b16db499cb704e7dd64bbb08850761d92afb3eb", func := "shambles/shambleslaw04.ColdTrue", spec := "coldTrue", unfollowed := true, recurses := true, apart := false }
def ColdTrueSaid : Prop := coldTrueRow.holds Try.pinned (OpenSpec.ofChange coldTrueSpec)

/-- ITS FALSE NEIGHBOUR: 'it returns false'. Refute it at one input. -/
def coldTrueWrong : ChangeSpec := { name := "coldTrue", fn := fun _ => fun
  | [d] => { results := [.lit (.bool false)], args := [d] }
  | _ => none }
def ColdTrueWrongFalsely : Prop := coldTrueRow.holds Try.pinned (OpenSpec.ofChange coldTrueWrong)

/-- 'shambleslaw04.ColdEnds': WHATEVER THE INPUT: true; the input reads as it did. -/
def coldEndsSpec : ChangeSpec := { name := "coldEnds", fn := fun _ => fun
  | [d] => { results := [.lit (.bool true)], args := [d] }
  | _ => none }
def coldEndsRow : OpenClaim := { program := "ytfenmmjeppehaaa", sum := "c3ca73b5dd2ba009cf2510169b16db499cb704e7dd64bbb08850761d92afb3eb", func := "shambles/shambleslaw04.ColdEnds", spec := "coldEnds", unfollowed := true, recurses := true, apart := false }
def ColdEndsSaid : Prop := coldEndsRow.holds Try.pinned (OpenSpec.ofChange coldEndsSpec)

/-- ITS FALSE NEIGHBOUR: 'it returns false'. Refute it at one input. -/
def coldEndsWrong : ChangeSpec := { name := "coldEnds", fn := fun _ => fun
  | [d] => { results := [.lit (.bool false)], args := [d] }
  | _ => none }
def ColdEndsWrongFalsely : Prop := coldEndsRow.holds Try.pinned (OpenSpec.ofChange coldEndsWrong)

/-- 'shambleslaw04.ColdNarrow': WHATEVER THE INPUT: true; the input reads as it did. -/
def coldNarrowSpec : ChangeSpec := { name := "coldNarrow", fn := fun _ => fun
  | [d] => { results := [.lit (.bool true)], args := [d] }
  | _ => none }
def coldNarrowRow : OpenClaim := { program := "ytfenmmjeppehaaa", sum := "c3ca73b5dd2ba009cf2510169b16db499cb704e7dd64bbb08850761d92afb3eb", func := "shambles/shambleslaw04.ColdNarrow", spec := "coldNarrow", unfollowed := true, recurses := true, apart := false }
def ColdNarrowSaid : Prop := coldNarrowRow.holds Try.pinned (OpenSpec.ofChange coldNarrowSpec)

/-- ITS FALSE NEIGHBOUR: 'it returns false'. Refute it at one input. -/
def coldNarrowWrong : ChangeSpec := { name := "coldNarrow", fn := fun _ => fun
  | [d] => { results := [.lit (.bool false)], args := [d] }
  | _ => none }
def ColdNarrowWrongFalsely : Prop := coldNarrowRow.holds Try.pinned (OpenSpec.ofChange coldNarrowWrong)

/-- 'shambleslaw04.ColdSells': WHATEVER THE INPUT: true; the input reads as it did. -/
def coldSellsSpec : ChangeSpec := { name := "coldSells", fn := fun _ => fun
  | [d1, d2, d3, d4, d5] => { results := [.lit (.bool true)], args := [d1, d2, d3, d4, d5] }
  | _ => none }
def coldSellsRow : OpenClaim := { program := "ytfenmmjeppehaaa", sum := "c3ca73b5dd2ba009cf2510169b16db499cb704e7dd64bbb08850761d92afb3eb", func := "shambles/shambleslaw04.ColdSells", spec := "coldSells", unfollowed := true, recurses := true, apart := false }
def ColdSellsSaid : Prop := coldSellsRow.holds Try.pinned (OpenSpec.ofChange coldSellsSpec)

/-- ITS FALSE NEIGHBOUR: 'it returns false'. Refute it at one input. -/
def coldSellsWrong : ChangeSpec := { name := "coldSells", fn := fun _ => fun
  | [d1, d2, d3, d4, d5] => { results := [.lit (.bool false)], args := [d1, d2, d3, d4, d5] }
  | _ => none }
def ColdSellsWrongFalsely : Prop := coldSellsRow.holds Try.pinned (OpenSpec.ofChange coldSellsWrong)

/-- 'shambleslaw04.ColdInTime': WHATEVER THE INPUT: true; the input reads as it did. -/
def coldInTimeSpec : ChangeSpec := { name := "coldInTime", fn := fun _ => fun
  | [d] => { results := [.lit (.bool true)], args := [d] }
  | _ => none }
def coldInTimeRow : OpenClaim := { program := "ytfenmmjeppehaaa", sum := "c3ca73b5dd2ba009cf2510169b16db499cb704e7dd64bbb08850761d92afb3eb", func := "shambles/shambleslaw04.ColdInTime", spec := "coldInTime", unfollowed := true, recurses := true, apart := false }
def ColdInTimeSaid : Prop := coldInTimeRow.holds Try.pinned (OpenSpec.ofChange coldInTimeSpec)

/-- ITS FALSE NEIGHBOUR: 'it returns false'. Refute it at one input. -/
def coldInTimeWrong : ChangeSpec := { name := "coldInTime", fn := fun _ => fun
  | [d] => { results := [.lit (.bool false)], args := [d] }
  | _ => none }
def ColdInTimeWrongFalsely : Prop := coldInTimeRow.holds Try.pinned (OpenSpec.ofChange coldInTimeWrong)

/- THE SECOND FORM. 'bulk': how many values and letters a reading holds, each counted each time it is reached (what is shared counts as often as it is met; a slice's spare places count too). A statement '..UptoSaid' is the law's where the arguments, and the package variables that the reading takes, are together of bulk at most 1048576: NARROWER than '..Said'. Prove '..Said' where nothing that the law and all that it calls make is longer than what came in: it says more and counts as full. Else prove '..UptoSaid'. A law counts once. -/
mutual
def uptoBulk {H : Type} : DataW H → Nat
  | .lit (.string bytes) => bytes.length + 1
  | .lit _ => 1
  | .nil => 1
  | .ptr d => uptoBulk d + 1
  | .slice elems spare => uptoBulkAll elems + uptoBulkAll spare + 1
  | .agg parts => uptoBulkAll parts + 1
  | .iface _ d => uptoBulk d + 1
  | .map entries => uptoBulkEntries entries + 1
  | .held _ => 1
def uptoBulkAll {H : Type} : List (DataW H) → Nat
  | [] => 0
  | d :: r => uptoBulk d + uptoBulkAll r
def uptoBulkEntries {H : Type} : List (Lit × DataW H) → Nat
  | [] => 0
  | x :: r => uptoBulkEntry x + uptoBulkEntries r
def uptoBulkEntry {H : Type} : Lit × DataW H → Nat
  | (.string bytes, d) => bytes.length + uptoBulk d + 1
  | (_, d) => uptoBulk d + 1
 end
def uptoSmall : (H : Type) → List (DataW H) → Bool := fun _ ds => decide (uptoBulkAll ds ≤ 1048576)
def OpenSpec.upto (s : _root_.Go.ChangeSpec) : _root_.Go.OpenSpec := { _root_.Go.OpenSpec.ofChange s with cond := some uptoSmall }

/-- 'shambleslaw04.ColdFills', WHERE WHAT IT READS IS OF BULK AT MOST 1048576: true; the input reads as it did. -/
def coldFillsUptoRow : OpenClaim := { program := "ytfenmmjeppehaaa", sum := "c3ca73b5dd2ba009cf2510169b16db499cb704e7dd64bbb08850761d92afb3eb", func := "shambles/shambleslaw04.ColdFills", spec := "coldFills", unfollowed := true, recurses := true, apart := false, narrowed := true }
def ColdFillsUptoSaid : Prop := coldFillsUptoRow.holds Try.pinned (OpenSpec.upto coldFillsSpec)

/-- 'shambleslaw04.ColdColder', WHERE WHAT IT READS IS OF BULK AT MOST 1048576: true; the input reads as it did. -/
def coldColderUptoRow : OpenClaim := { program := "ytfenmmjeppehaaa", sum := "c3ca73b5dd2ba009cf2510169b16db499cb704e7dd64bbb08850761d92afb3eb", func := "shambles/shambleslaw04.ColdColder", spec := "coldColder", unfollowed := true, recurses := true, apart := false, narrowed := true }
def ColdColderUptoSaid : Prop := coldColderUptoRow.holds Try.pinned (OpenSpec.upto coldColderSpec)

/-- 'shambleslaw04.ColdLosses', WHERE WHAT IT READS IS OF BULK AT MOST 1048576: true; the input reads as it did. -/
def coldLossesUptoRow : OpenClaim := { program := "ytfenmmjeppehaaa", sum := "c3ca73b5dd2ba009cf2510169b16db499cb704e7dd64bbb08850761d92afb3eb", func := "shambles/shambleslaw04.ColdLosses", spec := "coldLosses", unfollowed := true, recurses := true, apart := false, narrowed := true }
def ColdLossesUptoSaid : Prop := coldLossesUptoRow.holds Try.pinned (OpenSpec.upto coldLossesSpec)

/-- 'shambleslaw04.ColdOn', WHERE WHAT IT READS IS OF BULK AT MOST 1048576: true; the input reads as it did. -/
def coldOnUptoRow : OpenClaim := { program := "ytfenmmjeppehaaa", sum := "c3ca73b5dd2ba009cf2510169b16db499cb704e7dd64bbb08850761d92afb3eb", func := "shambles/shambleslaw04.ColdOn", spec := "coldOn", unfollowed := true, recurses := true, apart := false, narrowed := true }
def ColdOnUptoSaid : Prop := coldOnUptoRow.holds Try.pinned (OpenSpec.upto coldOnSpec)

/-- 'shambleslaw04.ColdChecks', WHERE WHAT IT READS IS OF BULK AT MOST 1048576: true; the input reads as it did. -/
def coldChecksUptoRow : OpenClaim := { program := "ytfenmmjeppehaaa", sum := "c3ca73b5dd2ba009cf2510169b16db499cb704e7dd64bbb08850761d92afb3eb", func := "shambles/shambleslaw04.ColdChecks", spec := "coldChecks", unfollowed := true, recurses := true, apart := false, narrowed := true }
def ColdChecksUptoSaid : Prop := coldChecksUptoRow.holds Try.pinned (OpenSpec.upto coldChecksSpec)

/-- 'shambleslaw04.ColdFewest', WHERE WHAT IT READS IS OF BULK AT MOST 1048576: true; the input reads as it did. -/
def coldFewestUptoRow : OpenClaim := { program := "ytfenmmjeppehaaa", sum := "c3ca73b5dd2ba009cf2510169b16db499cb704e7dd64bbb08850761d92afb3eb", func := "shambles/shambleslaw04.ColdFewest", spec := "coldFewest", unfollowed := true, recurses := true, apart := false, narrowed := true }
def ColdFewestUptoSaid : Prop := coldFewestUptoRow.holds Try.pinned (OpenSpec.upto coldFewestSpec)

/-- 'shambleslaw04.ColdTrue', WHERE WHAT IT READS IS OF BULK AT MOST 1048576: true; the input reads as it did. -/
def coldTrueUptoRow : OpenClaim := { program := "ytfenmmjeppehaaa", sum := "c3ca73b5dd2ba009cf2510169b16db499cb704e7dd64bbb08850761d92afb3eb", func := "shambles/shambleslaw04.ColdTrue", spec := "coldTrue", unfollowed := true, recurses := true, apart := false, narrowed := true }
def ColdTrueUptoSaid : Prop := coldTrueUptoRow.holds Try.pinned (OpenSpec.upto coldTrueSpec)

/-- 'shambleslaw04.ColdEnds', WHERE WHAT IT READS IS OF BULK AT MOST 1048576: true; the input reads as it did. -/
def coldEndsUptoRow : OpenClaim := { program := "ytfenmmjeppehaaa", sum := "c3ca73b5dd2ba009cf2510169b16db499cb704e7dd64bbb08850761d92afb3eb", func := "shambles/shambleslaw04.ColdEnds", spec := "coldEnds", unfollowed := true, recurses := true, apart := false, narrowed := true }
def ColdEndsUptoSaid : Prop := coldEndsUptoRow.holds Try.pinned (OpenSpec.upto coldEndsSpec)

/-- 'shambleslaw04.ColdNarrow', WHERE WHAT IT READS IS OF BULK AT MOST 1048576: true; the input reads as it did. -/
def coldNarrowUptoRow : OpenClaim := { program := "ytfenmmjeppehaaa", sum := "c3ca73b5dd2ba009cf2510169b16db499cb704e7dd64bbb08850761d92afb3eb", func := "shambles/shambleslaw04.ColdNarrow", spec := "coldNarrow", unfollowed := true, recurses := true, apart := false, narrowed := true }
def ColdNarrowUptoSaid : Prop := coldNarrowUptoRow.holds Try.pinned (OpenSpec.upto coldNarrowSpec)

/-- 'shambleslaw04.ColdSells', WHERE WHAT IT READS IS OF BULK AT MOST 1048576: true; the input reads as it did. -/
def coldSellsUptoRow : OpenClaim := { program := "ytfenmmjeppehaaa", sum := "c3ca73b5dd2ba009cf2510169b16db499cb704e7dd64bbb08850761d92afb3eb", func := "shambles/shambleslaw04.ColdSells", spec := "coldSells", unfollowed := true, recurses := true, apart := false, narrowed := true }
def ColdSellsUptoSaid : Prop := coldSellsUptoRow.holds Try.pinned (OpenSpec.upto coldSellsSpec)

/-- 'shambleslaw04.ColdInTime', WHERE WHAT IT READS IS OF BULK AT MOST 1048576: true; the input reads as it did. -/
def coldInTimeUptoRow : OpenClaim := { program := "ytfenmmjeppehaaa", sum := "c3ca73b5dd2ba009cf2510169b16db499cb704e7dd64bbb08850761d92afb3eb", func := "shambles/shambleslaw04.ColdInTime", spec := "coldInTime", unfollowed := true, recurses := true, apart := false, narrowed := true }
def ColdInTimeUptoSaid : Prop := coldInTimeUptoRow.holds Try.pinned (OpenSpec.upto coldInTimeSpec)

end Rows
end Go.Proofs.Ytfenmmjeppehaaa
