/-
  No cell of these rows narrows 'for every input' (looked for: loops, veiled, ifaces, maps, wideKeys, modest, calm, conditions, laid).
  DERIVED. THE GIVEN ROWS OF THIS SEAT. 8 by the template 'for every input the law returns true; each argument reads behind the call as it read before'; 0 by the template 'total and deterministic' (their statements: YtggbbldoopfejaaTotals.lean).
  GIVEN WITH THE SEED: the statements are not yours to turn. If you find one false, say at which input.
  Laid BY PROGRAM, IN A SANDBOX (cutbox-rows.mjs): the forced cells as the released guide's own fill.sh prints them over the translation 0af0a862dbe0984f… (all of the seat's roots in one cut). By AI agents, Wed Nov 11 2026. No macro, syntax, notation, axiom, sorry.
-/
import Derived.Test.YtggbbldoopfejaaChecked
import GoSem.Claim
import GoSem.ClaimJoined
import GoSem.ClaimMapViews
import Derived.JoinedTies
import Derived.KernelRfl
namespace Go.Proofs.Ytggbbldoopfejaa
/- THE CELL 'sum', in the pinned program and in every row, IS THE sha256 OF THE DUMP (.gsa) THAT YtggbbldoopfejaaProg.lean LOADS. Nothing in Lean hashes anything: it is a label: what it is worth is what the hold of that sum in a sandbox is worth. -/
noncomputable def Try.pinned : Pinned := { name := "ytggbbldoopfejaa", sum := "0af0a862dbe0984f87ce173ec0b5172df66cc17821e6e001e2635ae8b8ef961c", checked := Try.checked }
namespace Rows
def none {H : Type} : Left H := { results := [], args := [] }

/-- 'shambleslaw06.SwapRings': WHATEVER THE INPUT: true; the input reads as it did. -/
def swapRingsSpec : ChangeSpec := { name := "swapRings", fn := fun _ => fun
  | [d1, d2, d3, d4] => { results := [.lit (.bool true)], args := [d1, d2, d3, d4] }
  | _ => none }
def swapRingsRow : OpenClaim := { program := "ytggbbldoopfejaa", sum := "0af0a862dbe0984f87ce173ec0b5172df66cc17821e6e001e2635ae8b8ef961c", func := "shambles/shambleslaw06.SwapRings", spec := "swapRings", unfollowed := true, recurses := true, plainKeys := false, apart := false }
def SwapRingsSaid : Prop := swapRingsRow.holds Try.pinned (OpenSpec.ofChange swapRingsSpec)

/-- ITS FALSE NEIGHBOUR: 'it returns false'. Refute it at one input. -/
def swapRingsWrong : ChangeSpec := { name := "swapRings", fn := fun _ => fun
  | [d1, d2, d3, d4] => { results := [.lit (.bool false)], args := [d1, d2, d3, d4] }
  | _ => none }
def SwapRingsWrongFalsely : Prop := swapRingsRow.holds Try.pinned (OpenSpec.ofChange swapRingsWrong)

/-- 'shambleslaw06.SwapBlocks': WHATEVER THE INPUT: true; the input reads as it did. -/
def swapBlocksSpec : ChangeSpec := { name := "swapBlocks", fn := fun _ => fun
  | [d1, d2, d3] => { results := [.lit (.bool true)], args := [d1, d2, d3] }
  | _ => none }
def swapBlocksRow : OpenClaim := { program := "ytggbbldoopfejaa", sum := "0af0a862dbe0984f87ce173ec0b5172df66cc17821e6e001e2635ae8b8ef961c", func := "shambles/shambleslaw06.SwapBlocks", spec := "swapBlocks", unfollowed := true, recurses := true, plainKeys := false, apart := false }
def SwapBlocksSaid : Prop := swapBlocksRow.holds Try.pinned (OpenSpec.ofChange swapBlocksSpec)

/-- ITS FALSE NEIGHBOUR: 'it returns false'. Refute it at one input. -/
def swapBlocksWrong : ChangeSpec := { name := "swapBlocks", fn := fun _ => fun
  | [d1, d2, d3] => { results := [.lit (.bool false)], args := [d1, d2, d3] }
  | _ => none }
def SwapBlocksWrongFalsely : Prop := swapBlocksRow.holds Try.pinned (OpenSpec.ofChange swapBlocksWrong)

/-- 'shambleslaw06.SwapNoWorse': WHATEVER THE INPUT: true; the input reads as it did. -/
def swapNoWorseSpec : ChangeSpec := { name := "swapNoWorse", fn := fun _ => fun
  | [d] => { results := [.lit (.bool true)], args := [d] }
  | _ => none }
def swapNoWorseRow : OpenClaim := { program := "ytggbbldoopfejaa", sum := "0af0a862dbe0984f87ce173ec0b5172df66cc17821e6e001e2635ae8b8ef961c", func := "shambles/shambleslaw06.SwapNoWorse", spec := "swapNoWorse", unfollowed := true, recurses := true, plainKeys := false, apart := false }
def SwapNoWorseSaid : Prop := swapNoWorseRow.holds Try.pinned (OpenSpec.ofChange swapNoWorseSpec)

/-- ITS FALSE NEIGHBOUR: 'it returns false'. Refute it at one input. -/
def swapNoWorseWrong : ChangeSpec := { name := "swapNoWorse", fn := fun _ => fun
  | [d] => { results := [.lit (.bool false)], args := [d] }
  | _ => none }
def SwapNoWorseWrongFalsely : Prop := swapNoWorseRow.holds Try.pinned (OpenSpec.ofChange swapNoWorseWrong)

/-- 'shambleslaw06.SwapOnly': WHATEVER THE INPUT: true; the input reads as it did. -/
def swapOnlySpec : ChangeSpec := { name := "swapOnly", fn := fun _ => fun
  | [d] => { results := [.lit (.bool true)], args := [d] }
  | _ => none }
def swapOnlyRow : OpenClaim := { program := "ytggbbldoopfejaa", sum := "0af0a862dbe0984f87ce173ec0b5172df66cc17821e6e001e2635ae8b8ef961c", func := "shambles/shambleslaw06.SwapOnly", spec := "swapOnly", unfollowed := true, recurses := true, plainKeys := false, apart := false }
def SwapOnlySaid : Prop := swapOnlyRow.holds Try.pinned (OpenSpec.ofChange swapOnlySpec)

/-- ITS FALSE NEIGHBOUR: 'it returns false'. Refute it at one input. -/
def swapOnlyWrong : ChangeSpec := { name := "swapOnly", fn := fun _ => fun
  | [d] => { results := [.lit (.bool false)], args := [d] }
  | _ => none }
def SwapOnlyWrongFalsely : Prop := swapOnlyRow.holds Try.pinned (OpenSpec.ofChange swapOnlyWrong)

/-- 'shambleslaw06.SwapPleased': WHATEVER THE INPUT: true; the input reads as it did. -/
def swapPleasedSpec : ChangeSpec := { name := "swapPleased", fn := fun _ => fun
  | [d] => { results := [.lit (.bool true)], args := [d] }
  | _ => none }
def swapPleasedRow : OpenClaim := { program := "ytggbbldoopfejaa", sum := "0af0a862dbe0984f87ce173ec0b5172df66cc17821e6e001e2635ae8b8ef961c", func := "shambles/shambleslaw06.SwapPleased", spec := "swapPleased", unfollowed := true, recurses := true, plainKeys := false, apart := false }
def SwapPleasedSaid : Prop := swapPleasedRow.holds Try.pinned (OpenSpec.ofChange swapPleasedSpec)

/-- ITS FALSE NEIGHBOUR: 'it returns false'. Refute it at one input. -/
def swapPleasedWrong : ChangeSpec := { name := "swapPleased", fn := fun _ => fun
  | [d] => { results := [.lit (.bool false)], args := [d] }
  | _ => none }
def SwapPleasedWrongFalsely : Prop := swapPleasedRow.holds Try.pinned (OpenSpec.ofChange swapPleasedWrong)

/-- 'shambleslaw06.SwapTruth': WHATEVER THE INPUT: true; the input reads as it did. -/
def swapTruthSpec : ChangeSpec := { name := "swapTruth", fn := fun _ => fun
  | [d] => { results := [.lit (.bool true)], args := [d] }
  | _ => none }
def swapTruthRow : OpenClaim := { program := "ytggbbldoopfejaa", sum := "0af0a862dbe0984f87ce173ec0b5172df66cc17821e6e001e2635ae8b8ef961c", func := "shambles/shambleslaw06.SwapTruth", spec := "swapTruth", unfollowed := true, recurses := true, plainKeys := false, apart := false }
def SwapTruthSaid : Prop := swapTruthRow.holds Try.pinned (OpenSpec.ofChange swapTruthSpec)

/-- ITS FALSE NEIGHBOUR: 'it returns false'. Refute it at one input. -/
def swapTruthWrong : ChangeSpec := { name := "swapTruth", fn := fun _ => fun
  | [d] => { results := [.lit (.bool false)], args := [d] }
  | _ => none }
def SwapTruthWrongFalsely : Prop := swapTruthRow.holds Try.pinned (OpenSpec.ofChange swapTruthWrong)

/-- 'shambleslaw06.SwapOrder': WHATEVER THE INPUT: true; the input reads as it did. -/
def swapOrderSpec : ChangeSpec := { name := "swapOrder", fn := fun _ => fun
  | [d] => { results := [.lit (.bool true)], args := [d] }
  | _ => none }
def swapOrderRow : OpenClaim := { program := "ytggbbldoopfejaa", sum := "0af0a862dbe0984f87ce173ec0b5172df66cc17821e6e001e2635ae8b8ef961c", func := "shambles/shambleslaw06.SwapOrder", spec := "swapOrder", unfollowed := true, recurses := true, plainKeys := false, apart := false }
def SwapOrderSaid : Prop := swapOrderRow.holds Try.pinned (OpenSpec.ofChange swapOrderSpec)

/-- ITS FALSE NEIGHBOUR: 'it returns false'. Refute it at one input. -/
def swapOrderWrong : ChangeSpec := { name := "swapOrder", fn := fun _ => fun
  | [d] => { results := [.lit (.bool false)], args := [d] }
  | _ => none }
def SwapOrderWrongFalsely : Prop := swapOrderRow.holds Try.pinned (OpenSpec.ofChange swapOrderWrong)

/-- 'shambleslaw06.SwapLeft': WHATEVER THE INPUT: true; the input reads as it did. -/
def swapLeftSpec : ChangeSpec := { name := "swapLeft", fn := fun _ => fun
  | [d] => { results := [.lit (.bool true)], args := [d] }
  | _ => none }
def swapLeftRow : OpenClaim := { program := "ytggbbldoopfejaa", sum := "0af0a862dbe0984f87ce173ec0b5172df66cc17821e6e001e2635ae8b8ef961c", func := "shambles/shambleslaw06.SwapLeft", spec := "swapLeft", unfollowed := true, recurses := true, plainKeys := false, apart := false }
def SwapLeftSaid : Prop := swapLeftRow.holds Try.pinned (OpenSpec.ofChange swapLeftSpec)

/-- ITS FALSE NEIGHBOUR: 'it returns false'. Refute it at one input. -/
def swapLeftWrong : ChangeSpec := { name := "swapLeft", fn := fun _ => fun
  | [d] => { results := [.lit (.bool false)], args := [d] }
  | _ => none }
def SwapLeftWrongFalsely : Prop := swapLeftRow.holds Try.pinned (OpenSpec.ofChange swapLeftWrong)

/- THE SECOND FORM. 'bulk': how many values and letters a reading holds, each counted each time it is reached (what is shared counts as often as it is met; a slice's spare places count too). A statement '..UptoSaid' is the law's where the arguments, and the package variables that the reading takes, are together of bulk at most 1048576: NARROWER than '..Said'. Prove '..Said' where nothing that the law and all that it calls make is longer than what came in: it says more and counts as full. Else prove '..UptoSaid'. A law counts once. -/
mutual
def uptoBulk {H : Type} : DataW H → Nat
  | .lit (.string bytes) => bytes.length + 1
  | .lit _ => 1
  | .nil => 1
  | .ptr d => uptoBulk d + 1
  | .slice elems spare => uptoBulkAll elems + uptoBulkAll spare + 1
  | .agg parts => uptoBulkAll parts + 1
  | .iface _ d => uptoBulk d + 1
  | .map entries => uptoBulkEntries entries + 1
  | .held _ => 1
def uptoBulkAll {H : Type} : List (DataW H) → Nat
  | [] => 0
  | d :: r => uptoBulk d + uptoBulkAll r
def uptoBulkEntries {H : Type} : List (Lit × DataW H) → Nat
  | [] => 0
  | x :: r => uptoBulkEntry x + uptoBulkEntries r
def uptoBulkEntry {H : Type} : Lit × DataW H → Nat
  | (.string bytes, d) => bytes.length + uptoBulk d + 1
  | (_, d) => uptoBulk d + 1
 end
def uptoSmall : (H : Type) → List (DataW H) → Bool := fun _ ds => decide (uptoBulkAll ds ≤ 1048576)
def OpenSpec.upto (s : _root_.Go.ChangeSpec) : _root_.Go.OpenSpec := { _root_.Go.OpenSpec.ofChange s with cond := some uptoSmall }

/-- 'shambleslaw06.SwapRings', WHERE WHAT IT READS IS OF BULK AT MOST 1048576: true; the input reads as it did. -/
def swapRingsUptoRow : OpenClaim := { program := "ytggbbldoopfejaa", sum := "0af0a862dbe0984f87ce173ec0b5172df66cc17821e6e001e2635ae8b8ef961c", func := "shambles/shambleslaw06.SwapRings", spec := "swapRings", unfollowed := true, recurses := true, plainKeys := false, apart := false, narrowed := true }
def SwapRingsUptoSaid : Prop := swapRingsUptoRow.holds Try.pinned (OpenSpec.upto swapRingsSpec)

/-- 'shambleslaw06.SwapBlocks', WHERE WHAT IT READS IS OF BULK AT MOST 1048576: true; the input reads as it did. -/
def swapBlocksUptoRow : OpenClaim := { program := "ytggbbldoopfejaa", sum := "0af0a862dbe0984f87ce173ec0b5172df66cc17821e6e001e2635ae8b8ef961c", func := "shambles/shambleslaw06.SwapBlocks", spec := "swapBlocks", unfollowed := true, recurses := true, plainKeys := false, apart := false, narrowed := true }
def SwapBlocksUptoSaid : Prop := swapBlocksUptoRow.holds Try.pinned (OpenSpec.upto swapBlocksSpec)

/-- 'shambleslaw06.SwapNoWorse', WHERE WHAT IT READS IS OF BULK AT MOST 1048576: true; the input reads as it did. -/
def swapNoWorseUptoRow : OpenClaim := { program := "ytggbbldoopfejaa", sum := "0af0a862dbe0984f87ce173ec0b5172df66cc17821e6e001e2635ae8b8ef961c", func := "shambles/shambleslaw06.SwapNoWorse", spec := "swapNoWorse", unfollowed := true, recurses := true, plainKeys := false, apart := false, narrowed := true }
def SwapNoWorseUptoSaid : Prop := swapNoWorseUptoRow.holds Try.pinned (OpenSpec.upto swapNoWorseSpec)

/-- 'shambleslaw06.SwapOnly', WHERE WHAT IT READS IS OF BULK AT MOST 1048576: true; the input reads as it did. -/
def swapOnlyUptoRow : OpenClaim := { program := "ytggbbldoopfejaa", sum := "0af0a862dbe0984f87ce173ec0b5172df66cc17821e6e001e2635ae8b8ef961c", func := "shambles/shambleslaw06.SwapOnly", spec := "swapOnly", unfollowed := true, recurses := true, plainKeys := false, apart := false, narrowed := true }
def SwapOnlyUptoSaid : Prop := swapOnlyUptoRow.holds Try.pinned (OpenSpec.upto swapOnlySpec)

/-- 'shambleslaw06.SwapPleased', WHERE WHAT IT READS IS OF BULK AT MOST 1048576: true; the input reads as it did. -/
def swapPleasedUptoRow : OpenClaim := { program := "ytggbbldoopfejaa", sum := "0af0a862dbe0984f87ce173ec0b5172df66cc17821e6e001e2635ae8b8ef961c", func := "shambles/shambleslaw06.SwapPleased", spec := "swapPleased", unfollowed := true, recurses := true, plainKeys := false, apart := false, narrowed := true }
def SwapPleasedUptoSaid : Prop := swapPleasedUptoRow.holds Try.pinned (OpenSpec.upto swapPleasedSpec)

/-- 'shambleslaw06.SwapTruth', WHERE WHAT IT READS IS OF BULK AT MOST 1048576: true; the input reads as it did. -/
def swapTruthUptoRow : OpenClaim := { program := "ytggbbldoopfejaa", sum := "0af0a862dbe0984f87ce173ec0b5172df66cc17821e6e001e2635ae8b8ef961c", func := "shambles/shambleslaw06.SwapTruth", spec := "swapTruth", unfollowed := true, recurses := true, plainKeys := false, apart := false, narrowed := true }
def SwapTruthUptoSaid : Prop := swapTruthUptoRow.holds Try.pinned (OpenSpec.upto swapTruthSpec)

/-- 'shambleslaw06.SwapOrder', WHERE WHAT IT READS IS OF BULK AT MOST 1048576: true; the input reads as it did. -/
def swapOrderUptoRow : OpenClaim := { program := "ytggbbldoopfejaa", sum := "0af0a862dbe0984f87ce173ec0b5172df66cc17821e6e001e2635ae8b8ef961c", func := "shambles/shambleslaw06.SwapOrder", spec := "swapOrder", unfollowed := true, recurses := true, plainKeys := false, apart := false, narrowed := true }
def SwapOrderUptoSaid : Prop := swapOrderUptoRow.holds Try.pinned (OpenSpec.upto swapOrderSpec)

/-- 'shambleslaw06.SwapLeft', WHERE WHAT IT READS IS OF BULK AT MOST 1048576: true; the input reads as it did. -/
def swapLeftUptoRow : OpenClaim := { program := "ytggbbldoopfejaa", sum := "0af0a862dbe0984f87ce173ec0b5172df66cc17821e6e001e2635ae8b8ef961c", func := "shambles/shambleslaw06.SwapLeft", spec := "swapLeft", unfollowed := true, recurses := true, plainKeys := false, apart := false, narrowed := true }
def SwapLeftUptoSaid : Prop := swapLeftUptoRow.holds Try.pinned (OpenSpec.upto swapLeftSpec)

end Rows
end Go.Proofs.Ytggbbldoopfejaa
