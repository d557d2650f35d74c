/-
  No cell of these rows narrows 'for every input' (looked for: loops, veiled, ifaces, maps, wideKeys, modest, calm, conditions, laid).
  DERIVED. THE GIVEN ROWS OF THIS SEAT. 3 by the template 'for every input the law returns true; each argument reads behind the call as it read before'; 0 by the template 'total and deterministic' (their statements: YticllllmgpjbcaaTotals.lean).
  GIVEN WITH THE SEED: the statements are not yours to turn. If you find one false, say at which input.
  Laid BY PROGRAM, IN A SANDBOX (cutbox-rows.mjs): the forced cells as the released guide's own fill.sh prints them over the translation 60f4a5972f6a7915… (all of the seat's roots in one cut). By AI agents, Wed Nov 11 2026. No macro, syntax, notation, axiom, sorry.
-/
import Derived.Test.YticllllmgpjbcaaChecked
import GoSem.Claim
import GoSem.ClaimJoined
import GoSem.ClaimMapViews
import Derived.JoinedTies
import Derived.KernelRfl
namespace Go.Proofs.Yticllllmgpjbcaa
/- THE CELL 'sum', in the pinned program and in every row, IS THE sha256 OF THE DUMP (.gsa) THAT YticllllmgpjbcaaProg.lean LOADS. Nothing in Lean hashes anything: it is a label: what it is worth is what the hold of that sum in a sandbox is worth. -/
noncomputable def Try.pinned : Pinned := { name := "yticllllmgpjbcaa", sum := "60f4a5972f6a7915775630e68ba1dfd69b8a3eb194cdaac35386e9fdfbe1f474", checked := Try.checked }
namespace Rows
def none {H : Type} : Left H := { results := [], args := [] }

/-- 'shamblestop.TopWeek': WHATEVER THE INPUT: true; the input reads as it did. -/
def topWeekSpec : ChangeSpec := { name := "topWeek", fn := fun _ => fun
  | [d] => { results := [.lit (.bool true)], args := [d] }
  | _ => none }
def topWeekRow : OpenClaim := { program := "yticllllmgpjbcaa", sum := "60f4a5972f6a7915775630e68ba1dfd69b8a3eb194cdaac35386e9fdfbe1f474", func := "shambles/shamblestop.TopWeek", spec := "topWeek", unfollowed := true, recurses := true, plainKeys := false, apart := false }
def TopWeekSaid : Prop := topWeekRow.holds Try.pinned (OpenSpec.ofChange topWeekSpec)

/-- ITS FALSE NEIGHBOUR: 'it returns false'. Refute it at one input. -/
def topWeekWrong : ChangeSpec := { name := "topWeek", fn := fun _ => fun
  | [d] => { results := [.lit (.bool false)], args := [d] }
  | _ => none }
def TopWeekWrongFalsely : Prop := topWeekRow.holds Try.pinned (OpenSpec.ofChange topWeekWrong)

/-- 'shambleslaw06.SwapFrom': WHATEVER THE INPUT: true; the input reads as it did. -/
def swapFromSpec : ChangeSpec := { name := "swapFrom", fn := fun _ => fun
  | [d1, d2, d3, d4] => { results := [.lit (.bool true)], args := [d1, d2, d3, d4] }
  | _ => none }
def swapFromRow : OpenClaim := { program := "yticllllmgpjbcaa", sum := "60f4a5972f6a7915775630e68ba1dfd69b8a3eb194cdaac35386e9fdfbe1f474", func := "shambles/shambleslaw06.SwapFrom", spec := "swapFrom", unfollowed := true, recurses := true, plainKeys := false, apart := false }
def SwapFromSaid : Prop := swapFromRow.holds Try.pinned (OpenSpec.ofChange swapFromSpec)

/-- ITS FALSE NEIGHBOUR: 'it returns false'. Refute it at one input. -/
def swapFromWrong : ChangeSpec := { name := "swapFrom", fn := fun _ => fun
  | [d1, d2, d3, d4] => { results := [.lit (.bool false)], args := [d1, d2, d3, d4] }
  | _ => none }
def SwapFromWrongFalsely : Prop := swapFromRow.holds Try.pinned (OpenSpec.ofChange swapFromWrong)

/-- 'shambleslaw06.SwapStalls': WHATEVER THE INPUT: true; the input reads as it did. -/
def swapStallsSpec : ChangeSpec := { name := "swapStalls", fn := fun _ => fun
  | [d] => { results := [.lit (.bool true)], args := [d] }
  | _ => none }
def swapStallsRow : OpenClaim := { program := "yticllllmgpjbcaa", sum := "60f4a5972f6a7915775630e68ba1dfd69b8a3eb194cdaac35386e9fdfbe1f474", func := "shambles/shambleslaw06.SwapStalls", spec := "swapStalls", unfollowed := true, recurses := true, plainKeys := false, apart := false }
def SwapStallsSaid : Prop := swapStallsRow.holds Try.pinned (OpenSpec.ofChange swapStallsSpec)

/-- ITS FALSE NEIGHBOUR: 'it returns false'. Refute it at one input. -/
def swapStallsWrong : ChangeSpec := { name := "swapStalls", fn := fun _ => fun
  | [d] => { results := [.lit (.bool false)], args := [d] }
  | _ => none }
def SwapStallsWrongFalsely : Prop := swapStallsRow.holds Try.pinned (OpenSpec.ofChange swapStallsWrong)

/- THE SECOND FORM. 'bulk': how many values and letters a reading holds, each counted each time it is reached (what is shared counts as often as it is met; a slice's spare places count too). A statement '..UptoSaid' is the law's where the arguments, and the package variables that the reading takes, are together of bulk at most 1048576: NARROWER than '..Said'. Prove '..Said' where nothing that the law and all that it calls make is longer than what came in: it says more and counts as full. Else prove '..UptoSaid'. A law counts once. -/
mutual
def uptoBulk {H : Type} : DataW H → Nat
  | .lit (.string bytes) => bytes.length + 1
  | .lit _ => 1
  | .nil => 1
  | .ptr d => uptoBulk d + 1
  | .slice elems spare => uptoBulkAll elems + uptoBulkAll spare + 1
  | .agg parts => uptoBulkAll parts + 1
  | .iface _ d => uptoBulk d + 1
  | .map entries => uptoBulkEntries entries + 1
  | .held _ => 1
def uptoBulkAll {H : Type} : List (DataW H) → Nat
  | [] => 0
  | d :: r => uptoBulk d + uptoBulkAll r
def uptoBulkEntries {H : Type} : List (Lit × DataW H) → Nat
  | [] => 0
  | x :: r => uptoBulkEntry x + uptoBulkEntries r
def uptoBulkEntry {H : Type} : Lit × DataW H → Nat
  | (.string bytes, d) => bytes.length + uptoBulk d + 1
  | (_, d) => uptoBulk d + 1
 end
def uptoSmall : (H : Type) → List (DataW H) → Bool := fun _ ds => decide (uptoBulkAll ds ≤ 1048576)
def OpenSpec.upto (s : _root_.Go.ChangeSpec) : _root_.Go.OpenSpec := { _root_.Go.OpenSpec.ofChange s with cond := some uptoSmall }

/-- 'shamblestop.TopWeek', WHERE WHAT IT READS IS OF BULK AT MOST 1048576: true; the input reads as it did. -/
def topWeekUptoRow : OpenClaim := { program := "yticllllmgpjbcaa", sum := "60f4a5972f6a7915775630e68ba1dfd69b8a3eb194cdaac35386e9fdfbe1f474", func := "shambles/shamblestop.TopWeek", spec := "topWeek", unfollowed := true, recurses := true, plainKeys := false, apart := false, narrowed := true }
def TopWeekUptoSaid : Prop := topWeekUptoRow.holds Try.pinned (OpenSpec.upto topWeekSpec)

/-- 'shambleslaw06.SwapFrom', WHERE WHAT IT READS IS OF BULK AT MOST 1048576: true; the input reads as it did. -/
def swapFromUptoRow : OpenClaim := { program := "yticllllmgpjbcaa", sum := "60f4a5972f6a7915775630e68ba1dfd69b8a3eb194cdaac35386e9fdfbe1f474", func := "shambles/shambleslaw06.SwapFrom", spec := "swapFrom", unfollowed := true, recurses := true, plainKeys := false, apart := false, narrowed := true }
def SwapFromUptoSaid : Prop := swapFromUptoRow.holds Try.pinned (OpenSpec.upto swapFromSpec)

/-- 'shambleslaw06.SwapStalls', WHERE WHAT IT READS IS OF BULK AT MOST 1048576: true; the input reads as it did. -/
def swapStallsUptoRow : OpenClaim := { program := "yticllllmgpjbcaa", sum := "60f4a5972f6a7915775630e68ba1dfd69b8a3eb194cdaac35386e9fdfbe1f474", func := "shambles/shambleslaw06.SwapStalls", spec := "swapStalls", unfollowed := true, recurses := true, plainKeys := false, apart := false, narrowed := true }
def SwapStallsUptoSaid : Prop := swapStallsUptoRow.holds Try.pinned (OpenSpec.upto swapStallsSpec)

end Rows
end Go.Proofs.Yticllllmgpjbcaa
