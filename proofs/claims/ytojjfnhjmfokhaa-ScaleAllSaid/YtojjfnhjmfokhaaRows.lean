/-
  No cell of these rows narrows 'for every input' (looked for: loops, veiled, ifaces, maps, wideKeys, modest, calm, conditions, laid).
  DERIVED. THE GIVEN ROWS OF THIS SEAT. 10 by the template 'for every input the law returns true; each argument reads behind the call as it read before'; 0 by the template 'total and deterministic' (their statements: YtojjfnhjmfokhaaTotals.lean).
  GIVEN WITH THE SEED: the statements are not yours to turn. If you find one false, say at which input.
  Laid BY PROGRAM, IN A SANDBOX (cutbox-rows.mjs): the forced cells as the released guide's own fill.sh prints them over the translation 87dc4ff250ff293b… (all of the seat's roots in one cut). By AI agents, Wed Nov 11 2026. No macro, syntax, notation, axiom, sorry.
-/
import Derived.Test.YtojjfnhjmfokhaaChecked
import GoSem.Claim
import GoSem.ClaimJoined
import GoSem.ClaimMapViews
import Derived.JoinedTies
import Derived.KernelRfl
namespace Go.Proofs.Ytojjfnhjmfokhaa
/- THE CELL 'sum', in the pinned program and in every row, IS THE sha256 OF THE DUMP (.gsa) THAT YtojjfnhjmfokhaaProg.lean LOADS. Nothing in Lean hashes anything: it is a label: what it is worth is what the hold of that sum in a sandbox is worth. -/
noncomputable def Try.pinned : Pinned := { name := "ytojjfnhjmfokhaa", sum := "87dc4ff250ff293b9bcf1d09fdf273e1a1f4fd01b5bd6895266f90602d4a8786", checked := Try.checked }
namespace Rows
def none {H : Type} : Left H := { results := [], args := [] }

/-- 'shambleslaw01.ScaleClashes': WHATEVER THE INPUT: true; the input reads as it did. -/
def scaleClashesSpec : ChangeSpec := { name := "scaleClashes", fn := fun _ => fun
  | [d1, d2, d3] => { results := [.lit (.bool true)], args := [d1, d2, d3] }
  | _ => none }
def scaleClashesRow : OpenClaim := { program := "ytojjfnhjmfokhaa", sum := "87dc4ff250ff293b9bcf1d09fdf273e1a1f4fd01b5bd6895266f90602d4a8786", func := "shambles/shambleslaw01.ScaleClashes", spec := "scaleClashes", unfollowed := true, recurses := true, plainKeys := false, apart := false }
def ScaleClashesSaid : Prop := scaleClashesRow.holds Try.pinned (OpenSpec.ofChange scaleClashesSpec)

/-- ITS FALSE NEIGHBOUR: 'it returns false'. Refute it at one input. -/
def scaleClashesWrong : ChangeSpec := { name := "scaleClashes", fn := fun _ => fun
  | [d1, d2, d3] => { results := [.lit (.bool false)], args := [d1, d2, d3] }
  | _ => none }
def ScaleClashesWrongFalsely : Prop := scaleClashesRow.holds Try.pinned (OpenSpec.ofChange scaleClashesWrong)

/-- 'shambleslaw01.ScaleSeals': WHATEVER THE INPUT: true; the input reads as it did. -/
def scaleSealsSpec : ChangeSpec := { name := "scaleSeals", fn := fun _ => fun
  | [d1, d2, d3, d4, d5] => { results := [.lit (.bool true)], args := [d1, d2, d3, d4, d5] }
  | _ => none }
def scaleSealsRow : OpenClaim := { program := "ytojjfnhjmfokhaa", sum := "87dc4ff250ff293b9bcf1d09fdf273e1a1f4fd01b5bd6895266f90602d4a8786", func := "shambles/shambleslaw01.ScaleSeals", spec := "scaleSeals", unfollowed := true, recurses := true, plainKeys := false, apart := false }
def ScaleSealsSaid : Prop := scaleSealsRow.holds Try.pinned (OpenSpec.ofChange scaleSealsSpec)

/-- ITS FALSE NEIGHBOUR: 'it returns false'. Refute it at one input. -/
def scaleSealsWrong : ChangeSpec := { name := "scaleSeals", fn := fun _ => fun
  | [d1, d2, d3, d4, d5] => { results := [.lit (.bool false)], args := [d1, d2, d3, d4, d5] }
  | _ => none }
def ScaleSealsWrongFalsely : Prop := scaleSealsRow.holds Try.pinned (OpenSpec.ofChange scaleSealsWrong)

/-- 'shambleslaw01.ScaleLasts': WHATEVER THE INPUT: true; the input reads as it did. -/
def scaleLastsSpec : ChangeSpec := { name := "scaleLasts", fn := fun _ => fun
  | [d] => { results := [.lit (.bool true)], args := [d] }
  | _ => none }
def scaleLastsRow : OpenClaim := { program := "ytojjfnhjmfokhaa", sum := "87dc4ff250ff293b9bcf1d09fdf273e1a1f4fd01b5bd6895266f90602d4a8786", func := "shambles/shambleslaw01.ScaleLasts", spec := "scaleLasts", unfollowed := true, recurses := true, plainKeys := false, apart := false }
def ScaleLastsSaid : Prop := scaleLastsRow.holds Try.pinned (OpenSpec.ofChange scaleLastsSpec)

/-- ITS FALSE NEIGHBOUR: 'it returns false'. Refute it at one input. -/
def scaleLastsWrong : ChangeSpec := { name := "scaleLasts", fn := fun _ => fun
  | [d] => { results := [.lit (.bool false)], args := [d] }
  | _ => none }
def ScaleLastsWrongFalsely : Prop := scaleLastsRow.holds Try.pinned (OpenSpec.ofChange scaleLastsWrong)

/-- 'shambleslaw01.ScaleFewest': WHATEVER THE INPUT: true; the input reads as it did. -/
def scaleFewestSpec : ChangeSpec := { name := "scaleFewest", fn := fun _ => fun
  | [d] => { results := [.lit (.bool true)], args := [d] }
  | _ => none }
def scaleFewestRow : OpenClaim := { program := "ytojjfnhjmfokhaa", sum := "87dc4ff250ff293b9bcf1d09fdf273e1a1f4fd01b5bd6895266f90602d4a8786", func := "shambles/shambleslaw01.ScaleFewest", spec := "scaleFewest", unfollowed := true, recurses := true, plainKeys := false, apart := false }
def ScaleFewestSaid : Prop := scaleFewestRow.holds Try.pinned (OpenSpec.ofChange scaleFewestSpec)

/-- ITS FALSE NEIGHBOUR: 'it returns false'. Refute it at one input. -/
def scaleFewestWrong : ChangeSpec := { name := "scaleFewest", fn := fun _ => fun
  | [d] => { results := [.lit (.bool false)], args := [d] }
  | _ => none }
def ScaleFewestWrongFalsely : Prop := scaleFewestRow.holds Try.pinned (OpenSpec.ofChange scaleFewestWrong)

/-- 'shambleslaw01.ScaleKnown': WHATEVER THE INPUT: true; the input reads as it did. -/
def scaleKnownSpec : ChangeSpec := { name := "scaleKnown", fn := fun _ => fun
  | [d1, d2, d3, d4] => { results := [.lit (.bool true)], args := [d1, d2, d3, d4] }
  | _ => none }
def scaleKnownRow : OpenClaim := { program := "ytojjfnhjmfokhaa", sum := "87dc4ff250ff293b9bcf1d09fdf273e1a1f4fd01b5bd6895266f90602d4a8786", func := "shambles/shambleslaw01.ScaleKnown", spec := "scaleKnown", unfollowed := true, recurses := true, plainKeys := false, apart := false }
def ScaleKnownSaid : Prop := scaleKnownRow.holds Try.pinned (OpenSpec.ofChange scaleKnownSpec)

/-- ITS FALSE NEIGHBOUR: 'it returns false'. Refute it at one input. -/
def scaleKnownWrong : ChangeSpec := { name := "scaleKnown", fn := fun _ => fun
  | [d1, d2, d3, d4] => { results := [.lit (.bool false)], args := [d1, d2, d3, d4] }
  | _ => none }
def ScaleKnownWrongFalsely : Prop := scaleKnownRow.holds Try.pinned (OpenSpec.ofChange scaleKnownWrong)

/-- 'shambleslaw01.ScaleAll': WHATEVER THE INPUT: true; the input reads as it did. -/
def scaleAllSpec : ChangeSpec := { name := "scaleAll", fn := fun _ => fun
  | [d] => { results := [.lit (.bool true)], args := [d] }
  | _ => none }
def scaleAllRow : OpenClaim := { program := "ytojjfnhjmfokhaa", sum := "87dc4ff250ff293b9bcf1d09fdf273e1a1f4fd01b5bd6895266f90602d4a8786", func := "shambles/shambleslaw01.ScaleAll", spec := "scaleAll", unfollowed := true, recurses := true, plainKeys := false, apart := false }
def ScaleAllSaid : Prop := scaleAllRow.holds Try.pinned (OpenSpec.ofChange scaleAllSpec)

/-- ITS FALSE NEIGHBOUR: 'it returns false'. Refute it at one input. -/
def scaleAllWrong : ChangeSpec := { name := "scaleAll", fn := fun _ => fun
  | [d] => { results := [.lit (.bool false)], args := [d] }
  | _ => none }
def ScaleAllWrongFalsely : Prop := scaleAllRow.holds Try.pinned (OpenSpec.ofChange scaleAllWrong)

/-- 'shambleslaw01.ScaleClash': WHATEVER THE INPUT: true; the input reads as it did. -/
def scaleClashSpec : ChangeSpec := { name := "scaleClash", fn := fun _ => fun
  | [d] => { results := [.lit (.bool true)], args := [d] }
  | _ => none }
def scaleClashRow : OpenClaim := { program := "ytojjfnhjmfokhaa", sum := "87dc4ff250ff293b9bcf1d09fdf273e1a1f4fd01b5bd6895266f90602d4a8786", func := "shambles/shambleslaw01.ScaleClash", spec := "scaleClash", unfollowed := true, recurses := true, plainKeys := false, apart := false }
def ScaleClashSaid : Prop := scaleClashRow.holds Try.pinned (OpenSpec.ofChange scaleClashSpec)

/-- ITS FALSE NEIGHBOUR: 'it returns false'. Refute it at one input. -/
def scaleClashWrong : ChangeSpec := { name := "scaleClash", fn := fun _ => fun
  | [d] => { results := [.lit (.bool false)], args := [d] }
  | _ => none }
def ScaleClashWrongFalsely : Prop := scaleClashRow.holds Try.pinned (OpenSpec.ofChange scaleClashWrong)

/-- 'shambleslaw01.ScaleOrder': WHATEVER THE INPUT: true; the input reads as it did. -/
def scaleOrderSpec : ChangeSpec := { name := "scaleOrder", fn := fun _ => fun
  | [d] => { results := [.lit (.bool true)], args := [d] }
  | _ => none }
def scaleOrderRow : OpenClaim := { program := "ytojjfnhjmfokhaa", sum := "87dc4ff250ff293b9bcf1d09fdf273e1a1f4fd01b5bd6895266f90602d4a8786", func := "shambles/shambleslaw01.ScaleOrder", spec := "scaleOrder", unfollowed := true, recurses := true, plainKeys := false, apart := false }
def ScaleOrderSaid : Prop := scaleOrderRow.holds Try.pinned (OpenSpec.ofChange scaleOrderSpec)

/-- ITS FALSE NEIGHBOUR: 'it returns false'. Refute it at one input. -/
def scaleOrderWrong : ChangeSpec := { name := "scaleOrder", fn := fun _ => fun
  | [d] => { results := [.lit (.bool false)], args := [d] }
  | _ => none }
def ScaleOrderWrongFalsely : Prop := scaleOrderRow.holds Try.pinned (OpenSpec.ofChange scaleOrderWrong)

/-- 'shambleslaw01.ScaleMore': WHATEVER THE INPUT: true; the input reads as it did. -/
def scaleMoreSpec : ChangeSpec := { name := "scaleMore", fn := fun _ => fun
  | [d] => { results := [.lit (.bool true)], args := [d] }
  | _ => none }
def scaleMoreRow : OpenClaim := { program := "ytojjfnhjmfokhaa", sum := "87dc4ff250ff293b9bcf1d09fdf273e1a1f4fd01b5bd6895266f90602d4a8786", func := "shambles/shambleslaw01.ScaleMore", spec := "scaleMore", unfollowed := true, recurses := true, plainKeys := false, apart := false }
def ScaleMoreSaid : Prop := scaleMoreRow.holds Try.pinned (OpenSpec.ofChange scaleMoreSpec)

/-- ITS FALSE NEIGHBOUR: 'it returns false'. Refute it at one input. -/
def scaleMoreWrong : ChangeSpec := { name := "scaleMore", fn := fun _ => fun
  | [d] => { results := [.lit (.bool false)], args := [d] }
  | _ => none }
def ScaleMoreWrongFalsely : Prop := scaleMoreRow.holds Try.pinned (OpenSpec.ofChange scaleMoreWrong)

/-- 'shambleslaw01.ScaleTrue': WHATEVER THE INPUT: true; the input reads as it did. -/
def scaleTrueSpec : ChangeSpec := { name := "scaleTrue", fn := fun _ => fun
  | [d] => { results := [.lit (.bool true)], args := [d] }
  | _ => none }
def scaleTrueRow : OpenClaim := { program := "ytojjfnhjmfokhaa", sum := "87dc4ff250ff293b9bcf1d09fdf273e1a1f4fd01b5bd6895266f90602d4a8786", func := "shambles/shambleslaw01.ScaleTrue", spec := "scaleTrue", unfollowed := true, recurses := true, plainKeys := false, apart := false }
def ScaleTrueSaid : Prop := scaleTrueRow.holds Try.pinned (OpenSpec.ofChange scaleTrueSpec)

/-- ITS FALSE NEIGHBOUR: 'it returns false'. Refute it at one input. -/
def scaleTrueWrong : ChangeSpec := { name := "scaleTrue", fn := fun _ => fun
  | [d] => { results := [.lit (.bool false)], args := [d] }
  | _ => none }
def ScaleTrueWrongFalsely : Prop := scaleTrueRow.holds Try.pinned (OpenSpec.ofChange scaleTrueWrong)

/- THE SECOND FORM. 'bulk': how many values and letters a reading holds, each counted each time it is reached (what is shared counts as often as it is met; a slice's spare places count too). A statement '..UptoSaid' is the law's where the arguments, and the package variables that the reading takes, are together of bulk at most 1048576: NARROWER than '..Said'. Prove '..Said' where nothing that the law and all that it calls make is longer than what came in: it says more and counts as full. Else prove '..UptoSaid'. A law counts once. -/
mutual
def uptoBulk {H : Type} : DataW H → Nat
  | .lit (.string bytes) => bytes.length + 1
  | .lit _ => 1
  | .nil => 1
  | .ptr d => uptoBulk d + 1
  | .slice elems spare => uptoBulkAll elems + uptoBulkAll spare + 1
  | .agg parts => uptoBulkAll parts + 1
  | .iface _ d => uptoBulk d + 1
  | .map entries => uptoBulkEntries entries + 1
  | .held _ => 1
def uptoBulkAll {H : Type} : List (DataW H) → Nat
  | [] => 0
  | d :: r => uptoBulk d + uptoBulkAll r
def uptoBulkEntries {H : Type} : List (Lit × DataW H) → Nat
  | [] => 0
  | x :: r => uptoBulkEntry x + uptoBulkEntries r
def uptoBulkEntry {H : Type} : Lit × DataW H → Nat
  | (.string bytes, d) => bytes.length + uptoBulk d + 1
  | (_, d) => uptoBulk d + 1
 end
def uptoSmall : (H : Type) → List (DataW H) → Bool := fun _ ds => decide (uptoBulkAll ds ≤ 1048576)
def OpenSpec.upto (s : _root_.Go.ChangeSpec) : _root_.Go.OpenSpec := { _root_.Go.OpenSpec.ofChange s with cond := some uptoSmall }

/-- 'shambleslaw01.ScaleClashes', WHERE WHAT IT READS IS OF BULK AT MOST 1048576: true; the input reads as it did. -/
def scaleClashesUptoRow : OpenClaim := { program := "ytojjfnhjmfokhaa", sum := "87dc4ff250ff293b9bcf1d09fdf273e1a1f4fd01b5bd6895266f90602d4a8786", func := "shambles/shambleslaw01.ScaleClashes", spec := "scaleClashes", unfollowed := true, recurses := true, plainKeys := false, apart := false, narrowed := true }
def ScaleClashesUptoSaid : Prop := scaleClashesUptoRow.holds Try.pinned (OpenSpec.upto scaleClashesSpec)

/-- 'shambleslaw01.ScaleSeals', WHERE WHAT IT READS IS OF BULK AT MOST 1048576: true; the input reads as it did. -/
def scaleSealsUptoRow : OpenClaim := { program := "ytojjfnhjmfokhaa", sum := "87dc4ff250ff293b9bcf1d09fdf273e1a1f4fd01b5bd6895266f90602d4a8786", func := "shambles/shambleslaw01.ScaleSeals", spec := "scaleSeals", unfollowed := true, recurses := true, plainKeys := false, apart := false, narrowed := true }
def ScaleSealsUptoSaid : Prop := scaleSealsUptoRow.holds Try.pinned (OpenSpec.upto scaleSealsSpec)

/-- 'shambleslaw01.ScaleLasts', WHERE WHAT IT READS IS OF BULK AT MOST 1048576: true; the input reads as it did. -/
def scaleLastsUptoRow : OpenClaim := { program := "ytojjfnhjmfokhaa", sum := "87dc4ff250ff293b9bcf1d09fdf273e1a1f4fd01b5bd6895266f90602d4a8786", func := "shambles/shambleslaw01.ScaleLasts", spec := "scaleLasts", unfollowed := true, recurses := true, plainKeys := false, apart := false, narrowed := true }
def ScaleLastsUptoSaid : Prop := scaleLastsUptoRow.holds Try.pinned (OpenSpec.upto scaleLastsSpec)

/-- 'shambleslaw01.ScaleFewest', WHERE WHAT IT READS IS OF BULK AT MOST 1048576: true; the input reads as it did. -/
def scaleFewestUptoRow : OpenClaim := { program := "ytojjfnhjmfokhaa", sum := "87dc4ff250ff293b9bcf1d09fdf273e1a1f4fd01b5bd6895266f90602d4a8786", func := "shambles/shambleslaw01.ScaleFewest", spec := "scaleFewest", unfollowed := true, recurses := true, plainKeys := false, apart := false, narrowed := true }
def ScaleFewestUptoSaid : Prop := scaleFewestUptoRow.holds Try.pinned (OpenSpec.upto scaleFewestSpec)

/-- 'shambleslaw01.ScaleKnown', WHERE WHAT IT READS IS OF BULK AT MOST 1048576: true; the input reads as it did. -/
def scaleKnownUptoRow : OpenClaim := { program := "ytojjfnhjmfokhaa", sum := "87dc4ff250ff293b9bcf1d09fdf273e1a1f4fd01b5bd6895266f90602d4a8786", func := "shambles/shambleslaw01.ScaleKnown", spec := "scaleKnown", unfollowed := true, recurses := true, plainKeys := false, apart := false, narrowed := true }
def ScaleKnownUptoSaid : Prop := scaleKnownUptoRow.holds Try.pinned (OpenSpec.upto scaleKnownSpec)

/-- 'shambleslaw01.ScaleAll', WHERE WHAT IT READS IS OF BULK AT MOST 1048576: true; the input reads as it did. -/
def scaleAllUptoRow : OpenClaim := { program := "ytojjfnhjmfokhaa", sum := "87dc4ff250ff293b9bcf1d09fdf273e1a1f4fd01b5bd6895266f90602d4a8786", func := "shambles/shambleslaw01.ScaleAll", spec := "scaleAll", unfollowed := true, recurses := true, plainKeys := false, apart := false, narrowed := true }
def ScaleAllUptoSaid : Prop := scaleAllUptoRow.holds Try.pinned (OpenSpec.upto scaleAllSpec)

/-- 'shambleslaw01.ScaleClash', WHERE WHAT IT READS IS OF BULK AT MOST 1048576: true; the input reads as it did. -/
def scaleClashUptoRow : OpenClaim := { program := "ytojjfnhjmfokhaa", sum := "87dc4ff250ff293b9bcf1d09fdf273e1a1f4fd01b5bd6895266f90602d4a8786", func := "shambles/shambleslaw01.ScaleClash", spec := "scaleClash", unfollowed := true, recurses := true, plainKeys := false, apart := false, narrowed := true }
def ScaleClashUptoSaid : Prop := scaleClashUptoRow.holds Try.pinned (OpenSpec.upto scaleClashSpec)

/-- 'shambleslaw01.ScaleOrder', WHERE WHAT IT READS IS OF BULK AT MOST 1048576: true; the input reads as it did. -/
def scaleOrderUptoRow : OpenClaim := { program := "ytojjfnhjmfokhaa", sum := "87dc4ff250ff293b9bcf1d09fdf273e1a1f4fd01b5bd6895266f90602d4a8786", func := "shambles/shambleslaw01.ScaleOrder", spec := "scaleOrder", unfollowed := true, recurses := true, plainKeys := false, apart := false, narrowed := true }
def ScaleOrderUptoSaid : Prop := scaleOrderUptoRow.holds Try.pinned (OpenSpec.upto scaleOrderSpec)

/-- 'shambleslaw01.ScaleMore', WHERE WHAT IT READS IS OF BULK AT MOST 1048576: true; the input reads as it did. -/
def scaleMoreUptoRow : OpenClaim := { program := "ytojjfnhjmfokhaa", sum := "87dc4ff250ff293b9bcf1d09fdf273e1a1f4fd01b5bd6895266f90602d4a8786", func := "shambles/shambleslaw01.ScaleMore", spec := "scaleMore", unfollowed := true, recurses := true, plainKeys := false, apart := false, narrowed := true }
def ScaleMoreUptoSaid : Prop := scaleMoreUptoRow.holds Try.pinned (OpenSpec.upto scaleMoreSpec)

/-- 'shambleslaw01.ScaleTrue', WHERE WHAT IT READS IS OF BULK AT MOST 1048576: true; the input reads as it did. -/
def scaleTrueUptoRow : OpenClaim := { program := "ytojjfnhjmfokhaa", sum := "87dc4ff250ff293b9bcf1d09fdf273e1a1f4fd01b5bd6895266f90602d4a8786", func := "shambles/shambleslaw01.ScaleTrue", spec := "scaleTrue", unfollowed := true, recurses := true, plainKeys := false, apart := false, narrowed := true }
def ScaleTrueUptoSaid : Prop := scaleTrueUptoRow.holds Try.pinned (OpenSpec.upto scaleTrueSpec)

end Rows
end Go.Proofs.Ytojjfnhjmfokhaa
